import PyProof.Rows.All
import Wide.All
import OpenK.AllK
import Wide.FinOn
import Lean
import PySem.Challenge.RW_pq0918_01
set_option Elab.async false
set_option linter.all false
set_option maxRecDepth 1000000
set_option maxHeartbeats 100000000
set_option tactic.hygienic false
set_option genInjectivity false
set_option genSizeOf false
set_option genSizeOfSpec false
open And renaming intro→bH
open Array renaming getElem?_eq_getElem→jP,mk→mD,getElem?_eq_some_iff→pe,toList→uD
open Bool renaming and_eq_true_iff→aj,or_eq_false_iff→dW,false_ne_true→gp,not_eq_true'→gO,and_eq_true→jE
open Classical renaming propDecidable→sE
open Exists renaming intro→bq
open ForInStep renaming yield→u7
open Int renaming le_trans→bF,natCast_nonneg→cu,le_add_of_nonneg_right→di,ofNat_lt→fT,not_lt→gr,ofNat_le→iN,ofNat→jG,add_le_add_left→jT,le_of_eq→lC,toNat_lt→lD,toNat→o9,toNat_le→uE
open List renaming length_reverse→av,mem_cons→ay,mem_singleton→az,length_map→aC,size_toArray→aG,replicate→aI,length_append→aS,rec→bA,length_cons→bE,mem_of_getElem?→bI,nodup_cons→bK,mem_append→bN,getElem?_eq_some_iff→bW,map_append→b_,map_cons→cG,mem_reverse→cI,mem_map→cJ,toArray→cK,length_replicate→cL,reverse_cons→cO,eq_nil_of_length_eq_zero→cQ,mem_cons_self→cR,getElem?_eq_getElem→cX,append_assoc→c_,mem_cons_of_mem→dj,append_nil→dw,any_eq_true→dG,map_reverse→dY,reverse_reverse→dZ,drop_eq_nil_of_le→ez,filterMap_cons→eK,getElem?_eq_none→eZ,take_length→e_,casesOn→fk,getElem?_map→fH,take_add_one→fJ,getD_eq_getElem?_getD→gu,drop_eq_getElem_cons→gK,forall_mem_cons→gP,map_eq_nil_iff→ir,reverse_append→iu,getElem?_toArray→jc,getElem?_append_right→jz,nodup_nil→jA,all_eq_true→jH,mem_nil_iff→jI,any_cons→j0,length_eq_zero_iff→kO,flatten_cons→lE,length_singleton→l9,lookup_cons→mz,length_nil→nK,nil_append→nM,mem_map_of_mem→nW,nodup_iff_pairwise_ne→pA,getElem?_append_left→qn,getLast?_eq_getElem?→qo,eq_of_mem_replicate→rB,any_toArray→sI,drop_of_length_le→uF,map_map→uG,take_of_length_le→uH
open Nat renaming le_trans→aa,succ_le_succ→aH,ble→aO,le_of_eq→aQ,le_add_right→aT,beq→aX,lt_of_le_of_lt→aY,le_of_succ_le→a_,le_refl→bf,add_le_add_left→bw,ble_eq_true_of_le→bx,add_le_add_right→bD,le_succ_of_le→bM,le_of_ble_eq_true→cB,le_succ→cD,succ_add_eq_add_succ→cY,le_add_left→dz,mul_le_mul_left→dK,add_le_add→dR,zero_le→d7,blt→d9,le_of_lt→eB,zero_add→eG,lt_or_ge→fq,ne_of_lt→fy,lt_succ_self→f9,not_lt_of_le→gb,le_of_succ_le_succ→iO,lt_of_succ_lt_succ→iP,sub_add_cancel→iQ,succ_pos→jJ,add_assoc→j3,lt_of_lt_of_le→kH,not_lt→kI,add_comm→lF,min_eq_left→nN,ne_of_gt→oG,add_right_comm→pB,le_max_right→sJ
open Ne renaming symm→eW
open Option renaming isSome_iff_exists→fB,rec→gX,toList_some→kJ
open Option.some renaming inj→aK
open Prod.mk renaming inj→qV
open PyProof.Rows renaming tail_any→e8
open PySem renaming Value→af,Shared→ah,Addr→au,NameKind→aE,Expr→aJ,Params→aV,Around→bC,Heap→b9,World→cE,Program→cP,OsState→cT,DictEntry→dD,Stmt→dO,FuncData→eX,Builtin→fU,Model→g6,Keyword→jQ,Result→j6,Scope→nY,CmpOp→pq
open PySem.Builtin.SmallTypes renaming nextOf→kM
open PySem.Challenge renaming rw_pq0918_01→cW
open PySem.Code renaming quiet_builtin→sG
open PySem.Expr renaming casesOn→gz
open PySem.F renaming slot_list_append→rD,type_list_append→rE
open PySem.Heap renaming get?_push_of_some→aq,get?_push_size→aL,lt_size→bB,get?_update_other→cg,get?_update_self→dh,size_push→eY,SameBut→fM
open PySem.NameKind renaming casesOn→fF,cell→o_
open PySem.Obj renaming mapFields→gH,putName→j4,isFreed_of_fields→nX,mapBytearray→oH
open PySem.PyData renaming keyHash→aU
open PySem.ScopeKind renaming function→sL
open PySem.Str renaming ofString→d_
open PySem.Value renaming none→dH,ref→fY,bytes→pD
open PySem.W renaming Looks→cH
open PySem.W.Fast renaming te17119622794617984870→j5
open PySem.W.KBw renaming IsBytesIter→iA
open PySem.W.Looks renaming of_pure→ql,ld→qp
open PySem.callAny renaming viaDunder→vf
open UInt8 renaming ofNat→fX
section
open PySem PySem.W PyProof.Rows
namespace MineH
section
set_option tactic.hygienic true
noncomputable abbrev pw:cP:=PySem.Challenge.pw_pq0918_01
noncomputable def bg(i:Nat):dO:=pw.main.body[i]?.getD (.Pass default)
noncomputable def OP{α:Type}(st:dO)(k:Str→Arguments→List dO→nY→Pos→α)(e:α):α:=Stmt.casesOn (motive_2:=λz_=>α) st (λa b c z_ z_ z_ d z_ z_ p=>k a b c d p) (λz_ z_ z_ z_ z_ z_ z_ z_ z_ z_=>e) (λz_ z_ z_ z_ z_ z_ z_ z_ z_ z_ z_=>e) (λz_ z_=>e) (λz_ z_=>e) (λz_ z_ z_=>e) (λz_ z_ z_ z_ z_ z_ z_=>e) (λz_ z_ z_ z_=>e) (λz_ z_ z_ z_ z_=>e) (λz_ z_ z_ z_ z_=>e) (λz_ z_ z_ z_ z_=>e) (λz_ z_ z_ z_=>e) (λz_ z_ z_ z_=>e) (λz_ z_ z_=>e) (λz_ z_ z_=>e) (λz_ z_ z_=>e) (λz_ z_ z_=>e) (λz_ z_ z_ z_ z_=>e) (λz_ z_ z_ z_ z_=>e) (λz_ z_ z_=>e) (λz_ z_=>e) (λz_ z_ z_ z_=>e) (λz_ z_=>e) (λz_ z_=>e) (λz_ z_=>e) (λz_=>e) (λz_=>e) (λz_=>e)
noncomputable def TY{α:Type}(st:dO)(k:List dO→α)(e:α):α:=Stmt.casesOn (motive_2:=λz_=>α) st (λz_ z_ z_ z_ z_ z_ z_ z_ z_ z_=>e) (λz_ z_ z_ z_ z_ z_ z_ z_ z_ z_=>e) (λz_ z_ z_ c z_ z_ z_ z_ z_ z_ z_=>k c) (λz_ z_=>e) (λz_ z_=>e) (λz_ z_ z_=>e) (λz_ z_ z_ z_ z_ z_ z_=>e) (λz_ z_ z_ z_=>e) (λz_ z_ z_ z_ z_=>e) (λz_ z_ z_ z_ z_=>e) (λz_ z_ z_ z_ z_=>e) (λz_ z_ z_ z_=>e) (λz_ z_ z_ z_=>e) (λz_ z_ z_=>e) (λz_ z_ z_=>e) (λz_ z_ z_=>e) (λz_ z_ z_=>e) (λz_ z_ z_ z_ z_=>e) (λz_ z_ z_ z_ z_=>e) (λz_ z_ z_=>e) (λz_ z_=>e) (λz_ z_ z_ z_=>e) (λz_ z_=>e) (λz_ z_=>e) (λz_ z_=>e) (λz_=>e) (λz_=>e) (λz_=>e)
noncomputable def mA(i j:Nat):dO:=TY (bg i) (λb=>b[j]?.getD (.Pass default)) (.Pass default)
noncomputable def r(a:Nat):af:=.ref a
noncomputable def n:af:=.none
noncomputable def i(k:Int)(t:Nat):af:=.int k t
noncomputable def s(x:String)(t:Nat):af:=.str (d_ x) t
noncomputable def by_(b:List UInt8)(t:Nat):af:=.bytes b.toArray t
noncomputable def t(vs:List af):Obj:=⟨.type "tuple",none,.seq vs.toArray 0, #[]⟩
noncomputable def t0:Obj:=t []
noncomputable def f(vs:List af):Obj:=⟨.none,none,.fields vs.toArray, #[]⟩
noncomputable def f0:Obj:=f []
noncomputable def o(c:String)(d:Data):Obj:=⟨.type c,none,d, #[]⟩
noncomputable def fr(l:List (Option af)):Obj:=⟨.type "frame",none,.plain,l.toArray⟩
noncomputable def e(P:aV)(x:String)(t:Nat)(v:af):dD:=⟨aU P (d_ x),.str (d_ x) t,v⟩
noncomputable def d(es:List dD)(k:Nat):Obj:=⟨.type "dict",none,.dict es.toArray k, #[]⟩
noncomputable def d0(es:List dD)(k:Nat):Obj:=⟨.none,none,.dict es.toArray k, #[]⟩
noncomputable def cF(a b:String)(t l c x y:Nat)(z u w:af)(k fl:Nat):Obj:=
 o "code" (.fields [s a t,s b (t+1),s "/claim/cut.py" (t+2),i l 0,i c 0,i 0 0,i 0 0,i fl 0,r x,.bool true,i 181 0,r y,n,z,u,w,i k 0,i l 0,s "/claim/cut.py" (k+1)].toArray)
noncomputable def cC(a:String)(t l x y k fl:Nat):Obj:=
 o "code" (.fields [s a t,s a (t+1),s "/claim/cut.py" (t+2),i l 0,i 0 0,i 0 0,i 0 0,i fl 0,r x,.bool false,i 181 0,r y,n,n,n,n,i k 0,i l 0,s "/claim/cut.py" (k+1)].toArray)
noncomputable def fdOf(st:dO)(q:String)(g:au)(dV cV pm:af):eX:=OP st (λnm ps b sc z_=>{name:=nm,qualname:=d_ q,params:=ps,body:=.stmts b,scope:=sc,globals:=g,closure:=[],defaults:=dV,kwdefaults:=.none,doc:=.none,pyModule:=pm,annotations:=none,code:=cV,closureTuple:=.none,builtins:=0}) default
noncomputable def fn(st:dO)(q:String)(dV cV pm:af):Obj:=⟨.type "function",none,.func (fdOf st q mainGlobals dV cV pm), #[]⟩
noncomputable def tp(st:dO)(q:String):Obj:=⟨.none,none,.func (fdOf st q 0 .none .none .none), #[]⟩
noncomputable def cl(nm q:String)(bs mro:List af)(ns:au)(sl:List (Option af))(sub:List af):Obj:=
 ⟨.type "type",none,.cls {name:=d_ nm,bases:=bs,mro:=mro,ns:=ns,qualname:=d_ q,subclasses:=sub},sl.toArray⟩
noncomputable def w0:af:=s "postcore.memory" 1043
noncomputable def w1:af:=s "postcore.scanner" 687
noncomputable def w2:af:=s "postcore.objects" 453
noncomputable def w3:af:=s "postcore.base" 194
noncomputable def w4:af:=s "postcore.numbers" 304
noncomputable def w5:af:=s "law_pq0918_01" 1540
noncomputable def tb:List af:=[i 1 0,i 0 0,r 20,i 12 0,i 0 0,r 27,i 16 0,i 0 0,r 48,i 18 0,i 0 0,r 60,i 20 0,i 0 0,r 67,i 22 0,i 0 0,r 74,i 24 0,i 0 0,r 81,i 26 0,i 0 0,r 88,i 34 0,i 0 0,r 95,i 49 0,i 0 0,r 102,i 53 0,i 0 0,r 109,i 55 0,i 0 0,r 116,i 59 0,i 0 0,r 123,i 61 0,i 0 0,r 130,i 65 0,i 0 0,r 135,i 70 0,i 0 0,r 142,i 79 0,i 0 0,r 149,i 89 0,i 0 0,r 156,i 92 0,i 0 0,r 163,i 99 0,i 0 0,r 170,i 109 0,i 0 0,r 177,i 114 0,i 0 0,r 184,i 125 0,i 0 0,r 191,i 138 0,i 0 0,r 198,i 145 0,i 0 0,r 220,i 152 0,i 0 0,r 241,i 159 0,i 0 0,r 262,i 165 0,i 0 0,r 283,i 167 0,i 0 0,r 290,i 169 0,i 0 0,r 298,i 171 0,i 0 0,r 305,i 173 0,i 0 0,r 313,i 175 0,i 0 0,r 321,i 177 0,i 0 0,r 329,i 179 0,i 0 0,r 336,i 181 0,i 0 0,r 343,i 185 0,i 0 0,r 350,i 188 0,i 0 0,r 357,i 190 0,i 0 0,r 364,i 210 0,i 0 0,r 371,i 232 0,i 0 0,r 415,i 234 0,i 0 0,r 422,i 238 0,i 0 0,r 429,i 244 0,i 0 0,r 436,i 253 0,i 0 0,r 443,i 268 0,i 0 0,r 450,i 273 0,i 0 0,r 457,i 284 0,i 0 0,r 464,i 293 0,i 0 0,r 471,i 310 0,i 0 0,r 478,i 326 0,i 0 0,r 485,i 333 0,i 0 0,r 492,i 352 0,i 0 0,r 499,i 356 0,i 0 0,r 506,i 361 0,i 0 0,r 513,i 367 0,i 0 0,r 520,i 458 0,i 0 0,r 614,i 475 0,i 0 0,r 636,i 482 0,i 0 0,r 657,i 537 0,i 0 0,r 735,i 577 0,i 0 0,r 838,i 642 0,i 0 0,r 936,i 647 0,i 0 0,r 943,i 671 0,i 0 0,r 965,i 675 0,i 0 0,r 972,i 680 0,i 0 0,r 979,i 701 0,i 0 0,r 986,i 728 0,i 0 0,r 991,i 733 0,i 0 0,r 996,i 743 0,i 0 0,r 1003,i 755 0,i 0 0,r 1008,i 768 0,i 0 0,r 1013,i 777 0,i 0 0,r 1018]
noncomputable def gl(P:aV):List dD:=[
 e P "__doc__" 166 n,
 e P "__package__" 167 n,
 e P "__loader__" 168 (.builtin "__main__.__loader__#opaque"),
 e P "__spec__" 169 n,
 e P "__annotations__" 170 (r 6),
 e P "__builtins__" 171 (r 4),
 e P "__file__" 173 (s "/claim/cut.py" 172),
 e P "__cached__" 174 n,
 e P "_wall" 193 (r 21),
 e P "GRAIN" 197 (i 1000000 196),
 e P "LEAST_INT" 202 (i (-2147483648) 201),
 e P "MOST_INT" 208 (i 2147483647 207),
 e P "WHITE" 210 (by_ [0,9,10,12,13,32] 209),
 e P "DELIMITERS" 212 (by_ [40,41,60,62,91,93,123,125,47,37] 211),
 e P "LINE_FEED" 214 (i 10 213),
 e P "CARRIAGE_RETURN" 216 (i 13 215),
 e P "PostError" 245 (r 39),
 e P "PsError" 261 (r 52),
 e P "is_white" 268 (r 61),
 e P "is_delimiter" 275 (r 68),
 e P "is_line_end" 282 (r 75),
 e P "is_octal" 289 (r 82),
 e P "hex_value" 296 (r 89),
 e P "digit_value" 303 (r 96),
 e P "INTEGER" 307 (s "integer" 306),
 e P "REAL" 309 (s "real" 308),
 e P "MOST_REAL" 314 (i 1000000000000000000000 313),
 e P "PLACES" 316 (i 6 315),
 e P "WORD_SIZE" 320 (i 4294967296 319),
 e P "FEW_FIGURES" 322 (i 32 321),
 e P "divided" 333 (r 103),
 e P "is_integer_size" 340 (r 110),
 e P "checked_real" 347 (r 117),
 e P "real_of" 354 (r 124),
 e P "whole_number" 361 (r 131),
 e P "figures_value" 367 (r 136),
 e P "figures_joined" 379 (r 143),
 e P "read_radix" 389 (r 150),
 e P "signed_word" 397 (r 157),
 e P "read_exponent" 407 (r 164),
 e P "number_scaled" 415 (r 171),
 e P "split_at" 425 (r 178),
 e P "read_real" 440 (r 185),
 e P "read_number" 452 (r 192),
 e P "READ_ONLY" 456 (i 2 455),
 e P "UNLIMITED" 458 (i 3 457),
 e P "Thing" 493 (r 210),
 e P "Text" 528 (r 231),
 e P "Row" 563 (r 252),
 e P "Span" 596 (r 273),
 e P "integer" 603 (r 284),
 e P "real" 610 (r 291),
 e P "name" 618 (r 299),
 e P "null" 624 (r 306),
 e P "of_string" 633 (r 314),
 e P "of_row" 642 (r 322),
 e P "of_packed" 650 (r 330),
 e P "is_in_array" 657 (r 337),
 e P "body_of" 664 (r 344),
 e P "is_local" 672 (r 351),
 e P "octets_of_span" 679 (r 358),
 e P "things_of_span" 686 (r 365),
 e P "SCAN_END" 690 (i 4 689),
 e P "SCAN_FORM_FEED" 692 (i 12 691),
 e P "SCAN_BASE" 694 (i 85 693),
 e P "SCAN_FIRST" 696 (i 33 695),
 e P "SCAN_OPEN" 698 (i 40 697),
 e P "SCAN_CLOSE" 700 (i 41 699),
 e P "SCAN_SLASH" 702 (i 47 701),
 e P "SCAN_LESS" 704 (i 60 703),
 e P "SCAN_MORE" 706 (i 62 705),
 e P "SCAN_BACKSLASH" 708 (i 92 707),
 e P "SCAN_ROW_OPEN" 710 (i 91 709),
 e P "SCAN_ROW_CLOSE" 712 (i 93 711),
 e P "SCAN_PROC_OPEN" 714 (i 123 713),
 e P "SCAN_PROC_CLOSE" 716 (i 125 715),
 e P "SCAN_TILDE" 718 (i 126 717),
 e P "SCAN_NOUGHTS" 720 (i 122 719),
 e P "SCAN_PERCENT" 722 (i 37 721),
 e P "OctetSource" 777 (r 405),
 e P "is_blank" 784 (r 416),
 e P "scan_skip_feed" 792 (r 423),
 e P "scan_line" 800 (r 430),
 e P "scan_first" 808 (r 437),
 e P "scan_word" 818 (r 444),
 e P "scan_sure" 826 (r 451),
 e P "scan_octal" 836 (r 458),
 e P "scan_escape" 846 (r 465),
 e P "scan_string" 856 (r 472),
 e P "scan_hex" 867 (r 479),
 e P "scan_group" 876 (r 486),
 e P "scan_base85" 886 (r 493),
 e P "scan_name" 895 (r 500),
 e P "scan_regular" 904 (r 507),
 e P "scan_at_once" 914 (r 514),
 e P "Scanner" 1042 (r 604),
 e P "ITEM_COST" 1046 (i 8 1045),
 e P "MOST_COST" 1050 (i 16777216 1049),
 e P "Limits" 1118 (r 626),
 e P "VmSave" 1153 (r 647),
 e P "BodyMaker" 1255 (r 725),
 e P "BodyChanger" 1389 (r 830),
 e P "Memory" 1519 (r 928),
 e P "memory_check_many" 1527 (r 937),
 e P "memory_put_back" 1539 (r 944),
 e P "_law_things" 1566 (r 957),
 e P "_law_between" 1573 (r 958),
 e P "_law_asked" 1580 (r 959),
 e P "_law_draw" 1589 (r 966),
 e P "_law_long" 1600 (r 973),
 e P "_law_tokens" 1614 (r 980),
 e P "_law_read" 1630 (r 987),
 e P "_law_due" 1636 (r 992),
 e P "_law_told" 1642 (r 997),
 e P "_law_world" 1655 (r 1004),
 e P "_law_one_by_one" 1661 (r 1009),
 e P "_law_at_once" 1667 (r 1014),
 e P "law" 1673 (r 1019)]
noncomputable def Nm(P:aV)(c:Nat):List Obj:=[
 t0,
 f (tb.take c),
 cC "<module>" 182 1 11 12 185 0,
 fr [some (r 13),some (r 3),some (r 3),none,some (s "__main__" 164),none,some (r 0)],
 t0,
 f0,
 t [s "k" 190],
 t0,
 tp (bg 0) "_wall",
 cF "_wall" "_wall" 187 1 1 15 16 (r 17) (r 18) (r 19) 191 3,
 fn (bg 0) "_wall" n (r 20) (s "__main__" 164),
 t [(.type "Exception")],
 o "builtin_function_or_method" (.fields [(.builtin "type.__prepare__"),(.type "type")].toArray),
 d [e P "__module__" 224 w3,e P "__qualname__" 226 (s "PostError" 225),e P "__firstlineno__" 228 (i 12 227),e P "__init__" 236 (r 36),e P "__static_attributes__" 238 (r 37)] 5,
 t0,
 f [i 14 0,i 4 0,r 35],
 cC "PostError" 219 12 25 26 222 0,
 fr [some (r 27),some (r 3),some (r 24),none,some w3,none,some (r 0)],
 t [n],
 t0,
 f0,
 t [s "self" 232,s "told" 233],
 t0,
 tp (mA 9 0) "PostError.__init__",
 cF "__init__" "PostError.__init__" 229 14 2 30 31 (r 32) (r 33) (r 34) 234 3,
 fn (mA 9 0) "PostError.__init__" (r 29) (r 35) w3,
 t [s "told" 237],
 d [e P "__module__" 224 w3,e P "__firstlineno__" 228 (i 12 227),e P "__init__" 236 (r 36),e P "__static_attributes__" 238 (r 37),e P "__weakref__" 240 (r 40),e P "__doc__" 241 n] 3,
 cl "PostError" "PostError" [(.type "Exception")] [r 39,(.type "Exception"),(.type "BaseException"),(.type "object")] 38 [some (r 22),none,some (s "PostError" 217),some (s "PostError" 225),some (.builtin "Exception.__new__"),some (.bool true)] [r 52],
 o "getset_descriptor" (.fields [s "__weakref__" 239,r 39,(.builtin "ExceptionGroup.__weakref__"),n].toArray),
 o "super" (.fields [r 39,r 39,r 39].toArray),
 o "builtin_function_or_method" (.fields [(.builtin "object.__init_subclass__"),r 39].toArray),
 t [r 39],
 o "builtin_function_or_method" (.fields [(.builtin "type.__prepare__"),(.type "type")].toArray),
 d [e P "__module__" 253 w3,e P "__qualname__" 255 (s "PsError" 254),e P "__firstlineno__" 257 (i 16 256),e P "__static_attributes__" 258 (r 50)] 4,
 t0,
 f0,
 cC "PsError" 248 16 46 47 251 0,
 fr [some (r 48),some (r 3),some (r 45),none,some w3,none,some (r 0)],
 t0,
 d [e P "__module__" 253 w3,e P "__firstlineno__" 257 (i 16 256),e P "__static_attributes__" 258 (r 50),e P "__doc__" 259 n] 2,
 cl "PsError" "PsError" [r 39] [r 52,r 39,(.type "Exception"),(.type "BaseException"),(.type "object")] 51 [some (r 43),none,some (s "PsError" 246),some (s "PsError" 254),some (.builtin "Exception.__new__"),some (.bool true)] [],
 o "super" (.fields [r 52,r 52,r 52].toArray),
 o "builtin_function_or_method" (.fields [(.builtin "object.__init_subclass__"),r 52].toArray),
 t0,
 f0,
 t [s "octet" 265],
 t0,
 tp (bg 11) "is_white",
 cF "is_white" "is_white" 262 18 1 55 56 (r 57) (r 58) (r 59) 266 3,
 fn (bg 11) "is_white" n (r 60) w3,
 t0,
 f0,
 t [s "octet" 272],
 t0,
 tp (bg 12) "is_delimiter",
 cF "is_delimiter" "is_delimiter" 269 20 1 62 63 (r 64) (r 65) (r 66) 273 3,
 fn (bg 12) "is_delimiter" n (r 67) w3,
 t0,
 f0]
noncomputable def Nn(P:aV):List Obj:=[
 t [s "octet" 279],
 t0,
 tp (bg 13) "is_line_end",
 cF "is_line_end" "is_line_end" 276 22 1 69 70 (r 71) (r 72) (r 73) 280 3,
 fn (bg 13) "is_line_end" n (r 74) w3,
 t0,
 f0,
 t [s "octet" 286],
 t0,
 tp (bg 14) "is_octal",
 cF "is_octal" "is_octal" 283 24 1 76 77 (r 78) (r 79) (r 80) 287 3,
 fn (bg 14) "is_octal" n (r 81) w3,
 t0,
 f0,
 t [s "octet" 293],
 t0,
 tp (bg 15) "hex_value",
 cF "hex_value" "hex_value" 290 26 1 83 84 (r 85) (r 86) (r 87) 294 3,
 fn (bg 15) "hex_value" n (r 88) w3,
 t0,
 f0,
 t [s "octet" 300],
 t0,
 tp (bg 16) "digit_value",
 cF "digit_value" "digit_value" 297 34 1 90 91 (r 92) (r 93) (r 94) 301 3,
 fn (bg 16) "digit_value" n (r 95) w3,
 t0,
 f0,
 t [s "number" 326,s "by" 327,s "size" 328,s "parts" 329,s "found" 330],
 t0,
 tp (bg 24) "divided",
 cF "divided" "divided" 323 49 2 97 98 (r 99) (r 100) (r 101) 331 3,
 fn (bg 24) "divided" n (r 102) w4,
 t0,
 f0,
 t [s "number" 337],
 t0,
 tp (bg 25) "is_integer_size",
 cF "is_integer_size" "is_integer_size" 334 53 1 104 105 (r 106) (r 107) (r 108) 338 3,
 fn (bg 25) "is_integer_size" n (r 109) w4,
 t0,
 f0,
 t [s "millionths" 344],
 t0,
 tp (bg 26) "checked_real",
 cF "checked_real" "checked_real" 341 55 1 111 112 (r 113) (r 114) (r 115) 345 3,
 fn (bg 26) "checked_real" n (r 116) w4,
 t0,
 f0,
 t [s "number" 351],
 t0,
 tp (bg 27) "real_of",
 cF "real_of" "real_of" 348 59 1 118 119 (r 120) (r 121) (r 122) 352 3,
 fn (bg 27) "real_of" n (r 123) w4,
 t0,
 f0,
 t [s "number" 358],
 t0,
 tp (bg 28) "whole_number",
 cF "whole_number" "whole_number" 355 61 1 125 126 (r 127) (r 128) (r 129) 359 3]
noncomputable def Np(P:aV):List Obj:=[
 fn (bg 28) "whole_number" n (r 130) w4,
 t0,
 f0,
 tp (bg 29) "figures_value",
 cF "figures_value" "figures_value" 362 65 2 132 133 n n (r 134) 365 3,
 fn (bg 29) "figures_value" n (r 135) w4,
 t0,
 f0,
 t [s "figures" 371,s "base" 372,s "half" 373,s "begin" 374,s "found" 375,s "figure" 376],
 t0,
 tp (bg 30) "figures_joined",
 cF "figures_joined" "figures_joined" 368 70 2 137 138 (r 139) (r 140) (r 141) 377 3,
 fn (bg 30) "figures_joined" n (r 142) w4,
 t0,
 f0,
 t [s "octets" 383,s "at" 384,s "base" 385,s "found" 386],
 t0,
 tp (bg 31) "read_radix",
 cF "read_radix" "read_radix" 380 79 2 144 145 (r 146) (r 147) (r 148) 387 3,
 fn (bg 31) "read_radix" n (r 149) w4,
 t0,
 f0,
 t [s "number" 393,s "found" 394],
 t0,
 tp (bg 32) "signed_word",
 cF "signed_word" "signed_word" 390 89 1 151 152 (r 153) (r 154) (r 155) 395 3,
 fn (bg 32) "signed_word" n (r 156) w4,
 t0,
 f0,
 t [s "octets" 401,s "begin" 402,s "figures" 403,s "found" 404],
 t0,
 tp (bg 33) "read_exponent",
 cF "read_exponent" "read_exponent" 398 92 1 158 159 (r 160) (r 161) (r 162) 405 3,
 fn (bg 33) "read_exponent" n (r 163) w4,
 t0,
 f0,
 t [s "number" 411,s "tens" 412],
 t0,
 tp (bg 34) "number_scaled",
 cF "number_scaled" "number_scaled" 408 99 2 165 166 (r 167) (r 168) (r 169) 413 3,
 fn (bg 34) "number_scaled" n (r 170) w4,
 t0,
 f0,
 t [s "octets" 419,s "signs" 420,s "at" 421,s "octet" 422],
 t0,
 tp (bg 35) "split_at",
 cF "split_at" "split_at" 416 109 2 172 173 (r 174) (r 175) (r 176) 423 3,
 fn (bg 35) "split_at" n (r 177) w4,
 t0,
 f0,
 t [s "octets" 429,s "is_below" 430,s "figures" 431,s "exponent" 432,s "whole" 433,s "rest" 434,s "tens" 435,s "behind" 436,s "number" 437],
 t0,
 tp (bg 36) "read_real",
 cF "read_real" "read_real" 426 114 2 179 180 (r 181) (r 182) (r 183) 438 3,
 fn (bg 36) "read_real" n (r 184) w4,
 t0,
 f0,
 t [s "octets" 444,s "at" 445,s "octet" 446,s "begin" 447,s "is_below" 448,s "number" 449],
 t0,
 tp (bg 37) "read_number"]
noncomputable def Nq(P:aV):List Obj:=[
 cF "read_number" "read_number" 441 125 1 186 187 (r 188) (r 189) (r 190) 450 3,
 fn (bg 37) "read_number" n (r 191) w4,
 t0,
 o "builtin_function_or_method" (.fields [(.builtin "type.__prepare__"),(.type "type")].toArray),
 d [e P "__module__" 466 w2,e P "__qualname__" 468 (s "Thing" 467),e P "__firstlineno__" 470 (i 138 469),e P "__init__" 481 (r 207),e P "__static_attributes__" 486 (r 208)] 5,
 t0,
 f [i 140 0,i 4 0,r 206],
 cC "Thing" 461 138 196 197 464 0,
 fr [some (r 198),some (r 3),some (r 195),none,some w2,none,some (r 0)],
 t [(.bool false),i 3 457],
 t0,
 f0,
 t [s "self" 474,s "kind" 475,s "value" 476,s "is_exec" 477,s "access" 478],
 t0,
 tp (mA 41 0) "Thing.__init__",
 cF "__init__" "Thing.__init__" 471 140 5 201 202 (r 203) (r 204) (r 205) 479 3,
 fn (mA 41 0) "Thing.__init__" (r 200) (r 206) w2,
 t [s "access" 482,s "is_exec" 483,s "kind" 484,s "value" 485],
 d [e P "__module__" 466 w2,e P "__firstlineno__" 470 (i 138 469),e P "__init__" 481 (r 207),e P "__static_attributes__" 486 (r 208),e P "__dict__" 488 (r 211),e P "__weakref__" 490 (r 212),e P "__doc__" 491 n] 4,
 cl "Thing" "Thing" [(.type "object")] [r 210,(.type "object")] 209 [none,none,some (s "Thing" 459),some (s "Thing" 467),some (.builtin "object.__new__"),some (.bool true)] [],
 o "getset_descriptor" (.fields [s "__dict__" 487,r 210,(.builtin "function.__dict__"),(.builtin "function.__dict__#set")].toArray),
 o "getset_descriptor" (.fields [s "__weakref__" 489,r 210,(.builtin "ExceptionGroup.__weakref__"),n].toArray),
 o "super" (.fields [r 210,r 210,r 210].toArray),
 o "builtin_function_or_method" (.fields [(.builtin "object.__init_subclass__"),r 210].toArray),
 t0,
 o "builtin_function_or_method" (.fields [(.builtin "type.__prepare__"),(.type "type")].toArray),
 d [e P "__module__" 501 w2,e P "__qualname__" 503 (s "Text" 502),e P "__firstlineno__" 505 (i 145 504),e P "__init__" 516 (r 228),e P "__static_attributes__" 521 (r 229)] 5,
 t0,
 f [i 147 0,i 4 0,r 227],
 cC "Text" 496 145 218 219 499 0,
 fr [some (r 220),some (r 3),some (r 217),none,some w2,none,some (r 0)],
 t0,
 f0,
 t [s "self" 509,s "number" 510,s "octets" 511,s "is_global" 512,s "level" 513],
 t0,
 tp (mA 42 0) "Text.__init__",
 cF "__init__" "Text.__init__" 506 147 5 222 223 (r 224) (r 225) (r 226) 514 3,
 fn (mA 42 0) "Text.__init__" n (r 227) w2,
 t [s "is_global" 517,s "level" 518,s "number" 519,s "octets" 520],
 d [e P "__module__" 501 w2,e P "__firstlineno__" 505 (i 145 504),e P "__init__" 516 (r 228),e P "__static_attributes__" 521 (r 229),e P "__dict__" 523 (r 232),e P "__weakref__" 525 (r 233),e P "__doc__" 526 n] 4,
 cl "Text" "Text" [(.type "object")] [r 231,(.type "object")] 230 [none,none,some (s "Text" 494),some (s "Text" 502),some (.builtin "object.__new__"),some (.bool true)] [],
 o "getset_descriptor" (.fields [s "__dict__" 522,r 231,(.builtin "function.__dict__"),(.builtin "function.__dict__#set")].toArray),
 o "getset_descriptor" (.fields [s "__weakref__" 524,r 231,(.builtin "ExceptionGroup.__weakref__"),n].toArray),
 o "super" (.fields [r 231,r 231,r 231].toArray),
 o "builtin_function_or_method" (.fields [(.builtin "object.__init_subclass__"),r 231].toArray),
 t0,
 o "builtin_function_or_method" (.fields [(.builtin "type.__prepare__"),(.type "type")].toArray),
 d [e P "__module__" 536 w2,e P "__qualname__" 538 (s "Row" 537),e P "__firstlineno__" 540 (i 152 539),e P "__init__" 551 (r 249),e P "__static_attributes__" 556 (r 250)] 5,
 t0,
 f [i 154 0,i 4 0,r 248],
 cC "Row" 531 152 239 240 534 0,
 fr [some (r 241),some (r 3),some (r 238),none,some w2,none,some (r 0)],
 t0,
 f0,
 t [s "self" 544,s "number" 545,s "things" 546,s "is_global" 547,s "level" 548],
 t0,
 tp (mA 43 0) "Row.__init__",
 cF "__init__" "Row.__init__" 541 154 5 243 244 (r 245) (r 246) (r 247) 549 3,
 fn (mA 43 0) "Row.__init__" n (r 248) w2,
 t [s "is_global" 552,s "level" 553,s "number" 554,s "things" 555]]
noncomputable def Nr(P:aV):List Obj:=[
 d [e P "__module__" 536 w2,e P "__firstlineno__" 540 (i 152 539),e P "__init__" 551 (r 249),e P "__static_attributes__" 556 (r 250),e P "__dict__" 558 (r 253),e P "__weakref__" 560 (r 254),e P "__doc__" 561 n] 4,
 cl "Row" "Row" [(.type "object")] [r 252,(.type "object")] 251 [none,none,some (s "Row" 529),some (s "Row" 537),some (.builtin "object.__new__"),some (.bool true)] [],
 o "getset_descriptor" (.fields [s "__dict__" 557,r 252,(.builtin "function.__dict__"),(.builtin "function.__dict__#set")].toArray),
 o "getset_descriptor" (.fields [s "__weakref__" 559,r 252,(.builtin "ExceptionGroup.__weakref__"),n].toArray),
 o "super" (.fields [r 252,r 252,r 252].toArray),
 o "builtin_function_or_method" (.fields [(.builtin "object.__init_subclass__"),r 252].toArray),
 t0,
 o "builtin_function_or_method" (.fields [(.builtin "type.__prepare__"),(.type "type")].toArray),
 d [e P "__module__" 571 w2,e P "__qualname__" 573 (s "Span" 572),e P "__firstlineno__" 575 (i 159 574),e P "__init__" 585 (r 270),e P "__static_attributes__" 589 (r 271)] 5,
 t0,
 f [i 161 0,i 4 0,r 269],
 cC "Span" 566 159 260 261 569 0,
 fr [some (r 262),some (r 3),some (r 259),none,some w2,none,some (r 0)],
 t0,
 f0,
 t [s "self" 579,s "body" 580,s "start" 581,s "many" 582],
 t0,
 tp (mA 44 0) "Span.__init__",
 cF "__init__" "Span.__init__" 576 161 4 264 265 (r 266) (r 267) (r 268) 583 3,
 fn (mA 44 0) "Span.__init__" n (r 269) w2,
 t [s "body" 586,s "many" 587,s "start" 588],
 d [e P "__module__" 571 w2,e P "__firstlineno__" 575 (i 159 574),e P "__init__" 585 (r 270),e P "__static_attributes__" 589 (r 271),e P "__dict__" 591 (r 274),e P "__weakref__" 593 (r 275),e P "__doc__" 594 n] 4,
 cl "Span" "Span" [(.type "object")] [r 273,(.type "object")] 272 [none,none,some (s "Span" 564),some (s "Span" 572),some (.builtin "object.__new__"),some (.bool true)] [],
 o "getset_descriptor" (.fields [s "__dict__" 590,r 273,(.builtin "function.__dict__"),(.builtin "function.__dict__#set")].toArray),
 o "getset_descriptor" (.fields [s "__weakref__" 592,r 273,(.builtin "ExceptionGroup.__weakref__"),n].toArray),
 o "super" (.fields [r 273,r 273,r 273].toArray),
 o "builtin_function_or_method" (.fields [(.builtin "object.__init_subclass__"),r 273].toArray),
 t0,
 f0,
 t [s "number" 600],
 t0,
 tp (bg 45) "integer",
 cF "integer" "integer" 597 165 1 278 279 (r 280) (r 281) (r 282) 601 3,
 fn (bg 45) "integer" n (r 283) w2,
 t0,
 f0,
 t [s "millionths" 607],
 t0,
 tp (bg 46) "real",
 cF "real" "real" 604 167 1 285 286 (r 287) (r 288) (r 289) 608 3,
 fn (bg 46) "real" n (r 290) w2,
 t [(.bool false)],
 t0,
 f0,
 t [s "octets" 614,s "is_exec" 615],
 t0,
 tp (bg 47) "name",
 cF "name" "name" 611 169 2 293 294 (r 295) (r 296) (r 297) 616 3,
 fn (bg 47) "name" (r 292) (r 298) w2,
 t0,
 f0,
 t0,
 t0,
 tp (bg 48) "null",
 cF "null" "null" 619 171 0 300 301 (r 302) (r 303) (r 304) 622 3,
 fn (bg 48) "null" n (r 305) w2,
 t [(.bool false),i 3 457],
 t0,
 f0,
 t [s "text" 628,s "is_exec" 629,s "access" 630]]
noncomputable def Nt(P:aV):List Obj:=[
 t0,
 tp (bg 49) "of_string",
 cF "of_string" "of_string" 625 173 3 308 309 (r 310) (r 311) (r 312) 631 3,
 fn (bg 49) "of_string" (r 307) (r 313) w2,
 t [(.bool false),i 3 457],
 t0,
 f0,
 t [s "row" 637,s "is_exec" 638,s "access" 639],
 t0,
 tp (bg 50) "of_row",
 cF "of_row" "of_row" 634 175 3 316 317 (r 318) (r 319) (r 320) 640 3,
 fn (bg 50) "of_row" (r 315) (r 321) w2,
 t [(.bool false)],
 t0,
 f0,
 t [s "row" 646,s "is_exec" 647],
 t0,
 tp (bg 51) "of_packed",
 cF "of_packed" "of_packed" 643 177 2 324 325 (r 326) (r 327) (r 328) 648 3,
 fn (bg 51) "of_packed" (r 323) (r 329) w2,
 t0,
 f0,
 t [s "thing" 654],
 t0,
 tp (bg 52) "is_in_array",
 cF "is_in_array" "is_in_array" 651 179 1 331 332 (r 333) (r 334) (r 335) 655 3,
 fn (bg 52) "is_in_array" n (r 336) w2,
 t0,
 f0,
 t [s "thing" 661],
 t0,
 tp (bg 53) "body_of",
 cF "body_of" "body_of" 658 181 1 338 339 (r 340) (r 341) (r 342) 662 3,
 fn (bg 53) "body_of" n (r 343) w2,
 t0,
 f0,
 t [s "thing" 668,s "shared" 669],
 t0,
 tp (bg 54) "is_local",
 cF "is_local" "is_local" 665 185 1 345 346 (r 347) (r 348) (r 349) 670 3,
 fn (bg 54) "is_local" n (r 350) w2,
 t0,
 f0,
 t [s "span" 676],
 t0,
 tp (bg 55) "octets_of_span",
 cF "octets_of_span" "octets_of_span" 673 188 1 352 353 (r 354) (r 355) (r 356) 677 3,
 fn (bg 55) "octets_of_span" n (r 357) w2,
 t0,
 f0,
 t [s "span" 683],
 t0,
 tp (bg 56) "things_of_span",
 cF "things_of_span" "things_of_span" 680 190 1 359 360 (r 361) (r 362) (r 363) 684 3,
 fn (bg 56) "things_of_span" n (r 364) w2,
 t0,
 o "builtin_function_or_method" (.fields [(.builtin "type.__prepare__"),(.type "type")].toArray),
 d [e P "__module__" 730 w1,e P "__qualname__" 732 (s "OctetSource" 731),e P "__firstlineno__" 734 (i 210 733),e P "__init__" 744 (r 380),e P "place" 752 (r 388),e P "next" 759 (r 395),e P "back" 766 (r 402),e P "__static_attributes__" 770 (r 403)] 8,
 t0,
 f [i 212 0,i 4 0,r 379,i 218 0,i 4 0,r 386,i 221 0,i 4 0,r 394,i 228 0,i 4 0,r 401]]
noncomputable def Nu(P:aV):List Obj:=[
 cC "OctetSource" 725 210 369 370 728 0,
 fr [some (r 371),some (r 3),some (r 368),none,some w1,none,some (r 0)],
 t [i 0 735],
 t0,
 f0,
 t [s "self" 739,s "octets" 740,s "at" 741],
 t0,
 tp (mA 75 0) "OctetSource.__init__",
 cF "__init__" "OctetSource.__init__" 736 212 3 374 375 (r 376) (r 377) (r 378) 742 3,
 fn (mA 75 0) "OctetSource.__init__" (r 373) (r 379) w1,
 t0,
 f0,
 t [s "self" 748],
 t0,
 tp (mA 75 1) "OctetSource.place",
 cF "place" "OctetSource.place" 745 217 1 381 382 (r 383) (r 384) (r 385) 749 3,
 fn (mA 75 1) "OctetSource.place" n (r 386) w1,
 o "property" (.fields [r 387,n,n,n,s "place" 752,(.bool false)].toArray),
 t0,
 f0,
 t [s "self" 756],
 t0,
 tp (mA 75 2) "OctetSource.next",
 cF "next" "OctetSource.next" 753 221 1 389 390 (r 391) (r 392) (r 393) 757 3,
 fn (mA 75 2) "OctetSource.next" n (r 394) w1,
 t0,
 f0,
 t [s "self" 763],
 t0,
 tp (mA 75 3) "OctetSource.back",
 cF "back" "OctetSource.back" 760 228 1 396 397 (r 398) (r 399) (r 400) 764 3,
 fn (mA 75 3) "OctetSource.back" n (r 401) w1,
 t [s "at" 767,s "is_told" 768,s "octets" 769],
 d [e P "__module__" 730 w1,e P "__firstlineno__" 734 (i 210 733),e P "__init__" 744 (r 380),e P "place" 752 (r 388),e P "next" 759 (r 395),e P "back" 766 (r 402),e P "__static_attributes__" 770 (r 403),e P "__dict__" 772 (r 406),e P "__weakref__" 774 (r 407),e P "__doc__" 775 n] 4,
 cl "OctetSource" "OctetSource" [(.type "object")] [r 405,(.type "object")] 404 [none,none,some (s "OctetSource" 723),some (s "OctetSource" 731),some (.builtin "object.__new__"),some (.bool true)] [],
 o "getset_descriptor" (.fields [s "__dict__" 771,r 405,(.builtin "function.__dict__"),(.builtin "function.__dict__#set")].toArray),
 o "getset_descriptor" (.fields [s "__weakref__" 773,r 405,(.builtin "ExceptionGroup.__weakref__"),n].toArray),
 o "super" (.fields [r 405,r 405,r 405].toArray),
 o "builtin_function_or_method" (.fields [(.builtin "object.__init_subclass__"),r 405].toArray),
 t0,
 f0,
 t [s "octet" 781],
 t0,
 tp (bg 76) "is_blank",
 cF "is_blank" "is_blank" 778 232 1 410 411 (r 412) (r 413) (r 414) 782 3,
 fn (bg 76) "is_blank" n (r 415) w1,
 t0,
 f0,
 t [s "source" 788,s "following" 789],
 t0,
 tp (bg 77) "scan_skip_feed",
 cF "scan_skip_feed" "scan_skip_feed" 785 234 1 417 418 (r 419) (r 420) (r 421) 790 3,
 fn (bg 77) "scan_skip_feed" n (r 422) w1,
 t0,
 f0,
 t [s "source" 796,s "octet" 797],
 t0,
 tp (bg 78) "scan_line",
 cF "scan_line" "scan_line" 793 238 1 424 425 (r 426) (r 427) (r 428) 798 3,
 fn (bg 78) "scan_line" n (r 429) w1]
noncomputable def Nv(P:aV):List Obj:=[
 t0,
 f0,
 t [s "source" 804,s "octet" 805],
 t0,
 tp (bg 79) "scan_first",
 cF "scan_first" "scan_first" 801 244 1 431 432 (r 433) (r 434) (r 435) 806 3,
 fn (bg 79) "scan_first" n (r 436) w1,
 t0,
 f0,
 t [s "source" 812,s "most" 813,s "found" 814,s "octet" 815],
 t0,
 tp (bg 80) "scan_word",
 cF "scan_word" "scan_word" 809 253 2 438 439 (r 440) (r 441) (r 442) 816 3,
 fn (bg 80) "scan_word" n (r 443) w1,
 t0,
 f0,
 t [s "source" 822,s "octet" 823],
 t0,
 tp (bg 81) "scan_sure",
 cF "scan_sure" "scan_sure" 819 268 1 445 446 (r 447) (r 448) (r 449) 824 3,
 fn (bg 81) "scan_sure" n (r 450) w1,
 t0,
 f0,
 t [s "source" 830,s "octet" 831,s "number" 832,s "turn" 833],
 t0,
 tp (bg 82) "scan_octal",
 cF "scan_octal" "scan_octal" 827 273 2 452 453 (r 454) (r 455) (r 456) 834 3,
 fn (bg 82) "scan_octal" n (r 457) w1,
 t0,
 f0,
 t [s "source" 840,s "found" 841,s "meanings" 842,s "octet" 843],
 t0,
 tp (bg 83) "scan_escape",
 cF "scan_escape" "scan_escape" 837 284 2 459 460 (r 461) (r 462) (r 463) 844 3,
 fn (bg 83) "scan_escape" n (r 464) w1,
 t0,
 f0,
 t [s "source" 850,s "found" 851,s "depth" 852,s "octet" 853],
 t0,
 tp (bg 84) "scan_string",
 cF "scan_string" "scan_string" 847 293 1 466 467 (r 468) (r 469) (r 470) 854 3,
 fn (bg 84) "scan_string" n (r 471) w1,
 t0,
 f0,
 t [s "source" 860,s "found" 861,s "high" 862,s "octet" 863,s "digit" 864],
 t0,
 tp (bg 85) "scan_hex",
 cF "scan_hex" "scan_hex" 857 310 1 473 474 (r 475) (r 476) (r 477) 865 3,
 fn (bg 85) "scan_hex" n (r 478) w1,
 t0,
 f0,
 t [s "signs" 871,s "number" 872,s "sign" 873],
 t0,
 tp (bg 86) "scan_group",
 cF "scan_group" "scan_group" 868 326 1 480 481 (r 482) (r 483) (r 484) 874 3,
 fn (bg 86) "scan_group" n (r 485) w1,
 t0,
 f0,
 t [s "source" 880,s "found" 881,s "signs" 882,s "octet" 883],
 t0]
noncomputable def Nx(P:aV):List Obj:=[
 tp (bg 87) "scan_base85",
 cF "scan_base85" "scan_base85" 877 333 1 487 488 (r 489) (r 490) (r 491) 884 3,
 fn (bg 87) "scan_base85" n (r 492) w1,
 t0,
 f0,
 t [s "word" 890,s "is_exec" 891,s "most" 892],
 t0,
 tp (bg 88) "scan_name",
 cF "scan_name" "scan_name" 887 352 3 494 495 (r 496) (r 497) (r 498) 893 3,
 fn (bg 88) "scan_name" n (r 499) w1,
 t0,
 f0,
 t [s "word" 899,s "most" 900,s "told" 901],
 t0,
 tp (bg 89) "scan_regular",
 cF "scan_regular" "scan_regular" 896 356 2 501 502 (r 503) (r 504) (r 505) 902 3,
 fn (bg 89) "scan_regular" n (r 506) w1,
 t0,
 f0,
 t [s "word" 908,s "lookup" 909,s "most" 910,s "found" 911],
 t0,
 tp (bg 90) "scan_at_once",
 cF "scan_at_once" "scan_at_once" 905 361 3 508 509 (r 510) (r 511) (r 512) 912 3,
 fn (bg 90) "scan_at_once" n (r 513) w1,
 t0,
 o "builtin_function_or_method" (.fields [(.builtin "type.__prepare__"),(.type "type")].toArray),
 d [e P "__module__" 922 w1,e P "__qualname__" 924 (s "Scanner" 923),e P "__firstlineno__" 926 (i 367 925),e P "__init__" 934 (r 528),e P "string" 942 (r 535),e P "procedure" 952 (r 542),e P "word" 960 (r 549),e P "slashed" 970 (r 556),e P "pointed" 979 (r 563),e P "closed" 988 (r 570),e P "plain" 998 (r 577),e P "token" 1011 (r 585),e P "things" 1023 (r 593),e P "token_in" 1033 (r 601),e P "__static_attributes__" 1035 (r 602)] 15,
 t0,
 f [i 369 0,i 4 0,r 527,i 372 0,i 4 0,r 534,i 375 0,i 4 0,r 541,i 379 0,i 4 0,r 548,i 382 0,i 4 0,r 555,i 390 0,i 4 0,r 562,i 399 0,i 4 0,r 569,i 407 0,i 4 0,r 576,i 423 0,i 4 0,r 584,i 445 0,i 4 0,r 592,i 453 0,i 4 0,r 600],
 cC "Scanner" 917 367 518 519 920 0,
 fr [some (r 520),some (r 3),some (r 517),none,some w1,none,some (r 0)],
 t0,
 f0,
 t [s "self" 930,s "memory" 931],
 t0,
 tp (mA 91 0) "Scanner.__init__",
 cF "__init__" "Scanner.__init__" 927 369 2 522 523 (r 524) (r 525) (r 526) 932 3,
 fn (mA 91 0) "Scanner.__init__" n (r 527) w1,
 t0,
 f0,
 t [s "self" 938,s "octets" 939],
 t0,
 tp (mA 91 1) "Scanner.string",
 cF "string" "Scanner.string" 935 372 2 529 530 (r 531) (r 532) (r 533) 940 3,
 fn (mA 91 1) "Scanner.string" n (r 534) w1,
 t0,
 f0,
 t [s "self" 946,s "things" 947,s "is_packing" 948,s "row" 949],
 t0,
 tp (mA 91 2) "Scanner.procedure",
 cF "procedure" "Scanner.procedure" 943 375 3 536 537 (r 538) (r 539) (r 540) 950 3,
 fn (mA 91 2) "Scanner.procedure" n (r 541) w1,
 t0,
 f0,
 t [s "self" 956,s "source" 957],
 t0,
 tp (mA 91 3) "Scanner.word",
 cF "word" "Scanner.word" 953 379 2 543 544 (r 545) (r 546) (r 547) 958 3,
 fn (mA 91 3) "Scanner.word" n (r 548) w1,
 t0]
noncomputable def Ny(P:aV):List Obj:=[
 f0,
 t [s "self" 964,s "source" 965,s "lookup" 966,s "octet" 967],
 t0,
 tp (mA 91 4) "Scanner.slashed",
 cF "slashed" "Scanner.slashed" 961 382 3 550 551 (r 552) (r 553) (r 554) 968 3,
 fn (mA 91 4) "Scanner.slashed" n (r 555) w1,
 t0,
 f0,
 t [s "self" 974,s "source" 975,s "octet" 976],
 t0,
 tp (mA 91 5) "Scanner.pointed",
 cF "pointed" "Scanner.pointed" 971 390 2 557 558 (r 559) (r 560) (r 561) 977 3,
 fn (mA 91 5) "Scanner.pointed" n (r 562) w1,
 t0,
 f0,
 t [s "self" 983,s "source" 984,s "octet" 985],
 t0,
 tp (mA 91 6) "Scanner.closed",
 cF "closed" "Scanner.closed" 980 399 2 564 565 (r 566) (r 567) (r 568) 986 3,
 fn (mA 91 6) "Scanner.closed" n (r 569) w1,
 t0,
 f0,
 t [s "self" 992,s "source" 993,s "octet" 994,s "lookup" 995],
 t0,
 tp (mA 91 7) "Scanner.plain",
 cF "plain" "Scanner.plain" 989 407 4 571 572 (r 573) (r 574) (r 575) 996 3,
 fn (mA 91 7) "Scanner.plain" n (r 576) w1,
 t [(.bool false),n],
 t0,
 f0,
 t [s "self" 1002,s "source" 1003,s "is_packing" 1004,s "lookup" 1005,s "opened" 1006,s "octet" 1007,s "done" 1008],
 t0,
 tp (mA 91 8) "Scanner.token",
 cF "token" "Scanner.token" 999 423 4 579 580 (r 581) (r 582) (r 583) 1009 3,
 fn (mA 91 8) "Scanner.token" (r 578) (r 584) w1,
 t [(.bool false),n],
 t0,
 f0,
 t [s "self" 1015,s "source" 1016,s "is_packing" 1017,s "lookup" 1018,s "found" 1019,s "done" 1020],
 t0,
 tp (mA 91 9) "Scanner.things",
 cF "things" "Scanner.things" 1012 445 4 587 588 (r 589) (r 590) (r 591) 1021 3,
 fn (mA 91 9) "Scanner.things" (r 586) (r 592) w1,
 t [(.bool false),n],
 t0,
 f0,
 t [s "self" 1027,s "octets" 1028,s "is_packing" 1029,s "lookup" 1030],
 t0,
 tp (mA 91 10) "Scanner.token_in",
 cF "token_in" "Scanner.token_in" 1024 453 4 595 596 (r 597) (r 598) (r 599) 1031 3,
 fn (mA 91 10) "Scanner.token_in" (r 594) (r 600) w1,
 t [s "memory" 1034],
 d [e P "__module__" 922 w1,e P "__firstlineno__" 926 (i 367 925),e P "__init__" 934 (r 528),e P "string" 942 (r 535),e P "procedure" 952 (r 542),e P "word" 960 (r 549),e P "slashed" 970 (r 556),e P "pointed" 979 (r 563),e P "closed" 988 (r 570),e P "plain" 998 (r 577),e P "token" 1011 (r 585),e P "things" 1023 (r 593),e P "token_in" 1033 (r 601),e P "__static_attributes__" 1035 (r 602),e P "__dict__" 1037 (r 605),e P "__weakref__" 1039 (r 606),e P "__doc__" 1040 n] 4,
 cl "Scanner" "Scanner" [(.type "object")] [r 604,(.type "object")] 603 [none,none,some (s "Scanner" 915),some (s "Scanner" 923),some (.builtin "object.__new__"),some (.bool true)] [],
 o "getset_descriptor" (.fields [s "__dict__" 1036,r 604,(.builtin "function.__dict__"),(.builtin "function.__dict__#set")].toArray),
 o "getset_descriptor" (.fields [s "__weakref__" 1038,r 604,(.builtin "ExceptionGroup.__weakref__"),n].toArray),
 o "super" (.fields [r 604,r 604,r 604].toArray),
 o "builtin_function_or_method" (.fields [(.builtin "object.__init_subclass__"),r 604].toArray),
 t0,
 o "builtin_function_or_method" (.fields [(.builtin "type.__prepare__"),(.type "type")].toArray)]
noncomputable def Jt(P:aV):List Obj:=[
 d [e P "__module__" 1058 w0,e P "__qualname__" 1060 (s "Limits" 1059),e P "__firstlineno__" 1062 (i 458 1061),e P "__init__" 1096 (r 623),e P "__static_attributes__" 1111 (r 624)] 5,
 t0,
 f [i 460 0,i 4 0,r 622],
 cC "Limits" 1053 458 612 613 1056 0,
 fr [some (r 614),some (r 3),some (r 611),none,some w0,none,some (r 0)],
 t [i 500 1063,i 20 1064,i 250 1065,i 15 1066,i 31 1067,i 65535 1068,i 65535 1069,i 65535 1070,i 127 1071,i 1500 1072,i 11 1073,i 15 1074,i 600 1075,i 16777216 1049],
 t0,
 f0,
 t [s "self" 1079,s "operands" 1080,s "dicts" 1081,s "frames" 1082,s "saves" 1083,s "gstates" 1084,s "text" 1085,s "row" 1086,s "entries" 1087,s "word" 1088,s "path" 1089,s "dash" 1090,s "files" 1091,s "system" 1092,s "vm" 1093],
 t0,
 tp (mA 95 0) "Limits.__init__",
 cF "__init__" "Limits.__init__" 1076 460 15 617 618 (r 619) (r 620) (r 621) 1094 3,
 fn (mA 95 0) "Limits.__init__" (r 616) (r 622) w0,
 t [s "dash" 1097,s "dicts" 1098,s "entries" 1099,s "files" 1100,s "frames" 1101,s "gstates" 1102,s "operands" 1103,s "path" 1104,s "row" 1105,s "saves" 1106,s "system" 1107,s "text" 1108,s "vm" 1109,s "word" 1110],
 d [e P "__module__" 1058 w0,e P "__firstlineno__" 1062 (i 458 1061),e P "__init__" 1096 (r 623),e P "__static_attributes__" 1111 (r 624),e P "__dict__" 1113 (r 627),e P "__weakref__" 1115 (r 628),e P "__doc__" 1116 n] 4,
 cl "Limits" "Limits" [(.type "object")] [r 626,(.type "object")] 625 [none,none,some (s "Limits" 1051),some (s "Limits" 1059),some (.builtin "object.__new__"),some (.bool true)] [],
 o "getset_descriptor" (.fields [s "__dict__" 1112,r 626,(.builtin "function.__dict__"),(.builtin "function.__dict__#set")].toArray),
 o "getset_descriptor" (.fields [s "__weakref__" 1114,r 626,(.builtin "ExceptionGroup.__weakref__"),n].toArray),
 o "super" (.fields [r 626,r 626,r 626].toArray),
 o "builtin_function_or_method" (.fields [(.builtin "object.__init_subclass__"),r 626].toArray),
 t0,
 o "builtin_function_or_method" (.fields [(.builtin "type.__prepare__"),(.type "type")].toArray),
 d [e P "__module__" 1126 w0,e P "__qualname__" 1128 (s "VmSave" 1127),e P "__firstlineno__" 1130 (i 475 1129),e P "__init__" 1141 (r 644),e P "__static_attributes__" 1146 (r 645)] 5,
 t0,
 f [i 477 0,i 4 0,r 643],
 cC "VmSave" 1121 475 634 635 1124 0,
 fr [some (r 636),some (r 3),some (r 633),none,some w0,none,some (r 0)],
 t0,
 f0,
 t [s "self" 1134,s "number" 1135,s "many" 1136,s "used" 1137,s "note" 1138],
 t0,
 tp (mA 96 0) "VmSave.__init__",
 cF "__init__" "VmSave.__init__" 1131 477 5 638 639 (r 640) (r 641) (r 642) 1139 3,
 fn (mA 96 0) "VmSave.__init__" n (r 643) w0,
 t [s "many" 1142,s "note" 1143,s "number" 1144,s "used" 1145],
 d [e P "__module__" 1126 w0,e P "__firstlineno__" 1130 (i 475 1129),e P "__init__" 1141 (r 644),e P "__static_attributes__" 1146 (r 645),e P "__dict__" 1148 (r 648),e P "__weakref__" 1150 (r 649),e P "__doc__" 1151 n] 4,
 cl "VmSave" "VmSave" [(.type "object")] [r 647,(.type "object")] 646 [none,none,some (s "VmSave" 1119),some (s "VmSave" 1127),some (.builtin "object.__new__"),some (.bool true)] [],
 o "getset_descriptor" (.fields [s "__dict__" 1147,r 647,(.builtin "function.__dict__"),(.builtin "function.__dict__#set")].toArray),
 o "getset_descriptor" (.fields [s "__weakref__" 1149,r 647,(.builtin "ExceptionGroup.__weakref__"),n].toArray),
 o "super" (.fields [r 647,r 647,r 647].toArray),
 o "builtin_function_or_method" (.fields [(.builtin "object.__init_subclass__"),r 647].toArray),
 t0,
 o "builtin_function_or_method" (.fields [(.builtin "type.__prepare__"),(.type "type")].toArray),
 d [e P "__module__" 1161 w0,e P "__qualname__" 1163 (s "BodyMaker" 1162),e P "__firstlineno__" 1165 (i 482 1164),e P "__init__" 1173 (r 665),e P "level" 1181 (r 673),e P "body_level" 1188 (r 680),e P "take_room" 1196 (r 687),e P "check_room" 1204 (r 694),e P "make_text" 1212 (r 701),e P "text_of_octets" 1220 (r 708),e P "make_row" 1229 (r 715),e P "make_dict" 1237 (r 722),e P "__static_attributes__" 1248 (r 723)] 13,
 t0,
 f [i 484 0,i 4 0,r 664,i 497 0,i 4 0,r 671,i 500 0,i 4 0,r 679,i 503 0,i 4 0,r 686,i 513 0,i 4 0,r 693,i 517 0,i 4 0,r 700,i 520 0,i 4 0,r 707,i 524 0,i 4 0,r 714,i 535 0,i 4 0,r 721],
 cC "BodyMaker" 1156 482 655 656 1159 0,
 fr [some (r 657),some (r 3),some (r 654),none,some w0,none,some (r 0)],
 t0,
 f0,
 t [s "self" 1169,s "limits" 1170],
 t0,
 tp (mA 97 0) "BodyMaker.__init__",
 cF "__init__" "BodyMaker.__init__" 1166 484 2 659 660 (r 661) (r 662) (r 663) 1171 3,
 fn (mA 97 0) "BodyMaker.__init__" n (r 664) w0,
 t0,
 f0,
 t [s "self" 1177],
 t0,
 tp (mA 97 1) "BodyMaker.level"]
noncomputable def Ju(P:aV)(b1:List af→List af):List Obj:=[
 cF "level" "BodyMaker.level" 1174 496 1 666 667 (r 668) (r 669) (r 670) 1178 3,
 fn (mA 97 1) "BodyMaker.level" n (r 671) w0,
 o "property" (.fields [r 672,n,n,n,s "level" 1181,(.bool false)].toArray),
 t0,
 f0,
 t [s "self" 1185],
 t0,
 tp (mA 97 2) "BodyMaker.body_level",
 cF "body_level" "BodyMaker.body_level" 1182 500 1 674 675 (r 676) (r 677) (r 678) 1186 3,
 fn (mA 97 2) "BodyMaker.body_level" n (r 679) w0,
 t0,
 f0,
 t [s "self" 1192,s "cost" 1193],
 t0,
 tp (mA 97 3) "BodyMaker.take_room",
 cF "take_room" "BodyMaker.take_room" 1189 503 2 681 682 (r 683) (r 684) (r 685) 1194 3,
 fn (mA 97 3) "BodyMaker.take_room" n (r 686) w0,
 t0,
 f0,
 t [s "self" 1200,s "cost" 1201],
 t0,
 tp (mA 97 4) "BodyMaker.check_room",
 cF "check_room" "BodyMaker.check_room" 1197 513 2 688 689 (r 690) (r 691) (r 692) 1202 3,
 fn (mA 97 4) "BodyMaker.check_room" n (r 693) w0,
 t0,
 f0,
 t [s "self" 1208,s "many" 1209],
 t0,
 tp (mA 97 5) "BodyMaker.make_text",
 cF "make_text" "BodyMaker.make_text" 1205 517 2 695 696 (r 697) (r 698) (r 699) 1210 3,
 fn (mA 97 5) "BodyMaker.make_text" n (r 700) w0,
 t0,
 f0,
 t [s "self" 1216,s "octets" 1217],
 t0,
 tp (mA 97 6) "BodyMaker.text_of_octets",
 cF "text_of_octets" "BodyMaker.text_of_octets" 1213 520 2 702 703 (r 704) (r 705) (r 706) 1218 3,
 fn (mA 97 6) "BodyMaker.text_of_octets" n (r 707) w0,
 t0,
 f0,
 t [s "self" 1224,s "things" 1225,s "thing" 1226],
 t0,
 tp (mA 97 7) "BodyMaker.make_row",
 cF "make_row" "BodyMaker.make_row" 1221 524 2 709 710 (r 711) (r 712) (r 713) 1227 3,
 fn (mA 97 7) "BodyMaker.make_row" n (r 714) w0,
 t0,
 f0,
 t [s "self" 1233,s "most" 1234],
 t0,
 tp (mA 97 8) "BodyMaker.make_dict",
 cF "make_dict" "BodyMaker.make_dict" 1230 535 2 716 717 (r 718) (r 719) (r 720) 1235 3,
 fn (mA 97 8) "BodyMaker.make_dict" n (r 721) w0,
 t [s "freed" 1238,s "is_global" 1239,s "journal" 1240,s "last_body" 1241,s "last_save" 1242,s "limits" 1243,s "made" 1244,s "saves" 1245,s "used" 1246,s "used_global" 1247],
 d [e P "__module__" 1161 w0,e P "__firstlineno__" 1165 (i 482 1164),e P "__init__" 1173 (r 665),e P "level" 1181 (r 673),e P "body_level" 1188 (r 680),e P "take_room" 1196 (r 687),e P "check_room" 1204 (r 694),e P "make_text" 1212 (r 701),e P "text_of_octets" 1220 (r 708),e P "make_row" 1229 (r 715),e P "make_dict" 1237 (r 722),e P "__static_attributes__" 1248 (r 723),e P "__dict__" 1250 (r 726),e P "__weakref__" 1252 (r 727),e P "__doc__" 1253 n] 4,
 cl "BodyMaker" "BodyMaker" [(.type "object")] [r 725,(.type "object")] 724 [none,none,some (s "BodyMaker" 1154),some (s "BodyMaker" 1162),some (.builtin "object.__new__"),some (.bool true)] (b1 [r 830]),
 o "getset_descriptor" (.fields [s "__dict__" 1249,r 725,(.builtin "function.__dict__"),(.builtin "function.__dict__#set")].toArray),
 o "getset_descriptor" (.fields [s "__weakref__" 1251,r 725,(.builtin "ExceptionGroup.__weakref__"),n].toArray),
 o "super" (.fields [r 725,r 725,r 725].toArray),
 o "builtin_function_or_method" (.fields [(.builtin "object.__init_subclass__"),r 725].toArray),
 t [r 725]]
noncomputable def Jv(P:aV):List Obj:=[
 o "builtin_function_or_method" (.fields [(.builtin "type.__prepare__"),(.type "type")].toArray),
 d [e P "__module__" 1263 w0,e P "__qualname__" 1265 (s "BodyChanger" 1264),e P "__firstlineno__" 1267 (i 537 1266),e P "is_elder" 1275 (r 743),e P "check_holds" 1284 (r 750),e P "put_item" 1294 (r 757),e P "put_items" 1304 (r 764),e P "put_octet" 1314 (r 771),e P "put_octets" 1324 (r 778),e P "grow" 1332 (r 785),e P "check_entries" 1341 (r 792),e P "check_key" 1349 (r 799),e P "put_entry" 1359 (r 806),e P "drop_entry" 1368 (r 813),e P "set_access" 1377 (r 820),e P "note_state" 1385 (r 827),e P "__static_attributes__" 1386 (r 828)] 17,
 t0,
 f [i 539 0,i 4 0,r 742,i 542 0,i 4 0,r 749,i 545 0,i 4 0,r 756,i 548 0,i 4 0,r 763,i 551 0,i 4 0,r 770,i 554 0,i 4 0,r 777,i 557 0,i 4 0,r 784,i 560 0,i 4 0,r 791,i 563 0,i 4 0,r 798,i 566 0,i 4 0,r 805,i 569 0,i 4 0,r 812,i 572 0,i 4 0,r 819,i 575 0,i 4 0,r 826],
 cC "BodyChanger" 1258 537 733 734 1261 0,
 fr [some (r 735),some (r 3),some (r 732),none,some w0,none,some (r 0)],
 t0,
 f0,
 t [s "self" 1271,s "body" 1272],
 t0,
 tp (mA 98 0) "BodyChanger.is_elder",
 cF "is_elder" "BodyChanger.is_elder" 1268 539 2 737 738 (r 739) (r 740) (r 741) 1273 3,
 fn (mA 98 0) "BodyChanger.is_elder" n (r 742) w0,
 t0,
 f0,
 t [s "self" 1279,s "body" 1280,s "thing" 1281],
 t0,
 tp (mA 98 1) "BodyChanger.check_holds",
 cF "check_holds" "BodyChanger.check_holds" 1276 542 3 744 745 (r 746) (r 747) (r 748) 1282 3,
 fn (mA 98 1) "BodyChanger.check_holds" n (r 749) w0,
 t0,
 f0,
 t [s "self" 1288,s "row" 1289,s "at" 1290,s "thing" 1291],
 t0,
 tp (mA 98 2) "BodyChanger.put_item",
 cF "put_item" "BodyChanger.put_item" 1285 545 4 751 752 (r 753) (r 754) (r 755) 1292 3,
 fn (mA 98 2) "BodyChanger.put_item" n (r 756) w0,
 t0,
 f0,
 t [s "self" 1298,s "row" 1299,s "at" 1300,s "things" 1301],
 t0,
 tp (mA 98 3) "BodyChanger.put_items",
 cF "put_items" "BodyChanger.put_items" 1295 548 4 758 759 (r 760) (r 761) (r 762) 1302 3,
 fn (mA 98 3) "BodyChanger.put_items" n (r 763) w0,
 t0,
 f0,
 t [s "self" 1308,s "text" 1309,s "at" 1310,s "octet" 1311],
 t0,
 tp (mA 98 4) "BodyChanger.put_octet",
 cF "put_octet" "BodyChanger.put_octet" 1305 551 4 765 766 (r 767) (r 768) (r 769) 1312 3,
 fn (mA 98 4) "BodyChanger.put_octet" n (r 770) w0,
 t0,
 f0,
 t [s "self" 1318,s "text" 1319,s "at" 1320,s "octets" 1321],
 t0,
 tp (mA 98 5) "BodyChanger.put_octets",
 cF "put_octets" "BodyChanger.put_octets" 1315 554 4 772 773 (r 774) (r 775) (r 776) 1322 3,
 fn (mA 98 5) "BodyChanger.put_octets" n (r 777) w0,
 t0,
 f0,
 t [s "self" 1328,s "body" 1329],
 t0,
 tp (mA 98 6) "BodyChanger.grow",
 cF "grow" "BodyChanger.grow" 1325 557 2 779 780 (r 781) (r 782) (r 783) 1330 3,
 fn (mA 98 6) "BodyChanger.grow" n (r 784) w0,
 t0,
 f0,
 t [s "self" 1336,s "body" 1337,s "many" 1338],
 t0,
 tp (mA 98 7) "BodyChanger.check_entries"]
noncomputable def Jw(P:aV)(b2:List af→List af):List Obj:=[
 cF "check_entries" "BodyChanger.check_entries" 1333 560 3 786 787 (r 788) (r 789) (r 790) 1339 3,
 fn (mA 98 7) "BodyChanger.check_entries" n (r 791) w0,
 t0,
 f0,
 t [s "self" 1345,s "key" 1346],
 t0,
 tp (mA 98 8) "BodyChanger.check_key",
 cF "check_key" "BodyChanger.check_key" 1342 563 2 793 794 (r 795) (r 796) (r 797) 1347 3,
 fn (mA 98 8) "BodyChanger.check_key" n (r 798) w0,
 t0,
 f0,
 t [s "self" 1353,s "body" 1354,s "key" 1355,s "thing" 1356],
 t0,
 tp (mA 98 9) "BodyChanger.put_entry",
 cF "put_entry" "BodyChanger.put_entry" 1350 566 4 800 801 (r 802) (r 803) (r 804) 1357 3,
 fn (mA 98 9) "BodyChanger.put_entry" n (r 805) w0,
 t0,
 f0,
 t [s "self" 1363,s "body" 1364,s "key" 1365],
 t0,
 tp (mA 98 10) "BodyChanger.drop_entry",
 cF "drop_entry" "BodyChanger.drop_entry" 1360 569 3 807 808 (r 809) (r 810) (r 811) 1366 3,
 fn (mA 98 10) "BodyChanger.drop_entry" n (r 812) w0,
 t0,
 f0,
 t [s "self" 1372,s "body" 1373,s "access" 1374],
 t0,
 tp (mA 98 11) "BodyChanger.set_access",
 cF "set_access" "BodyChanger.set_access" 1369 572 3 814 815 (r 816) (r 817) (r 818) 1375 3,
 fn (mA 98 11) "BodyChanger.set_access" n (r 819) w0,
 t0,
 f0,
 t [s "self" 1381,s "state" 1382],
 t0,
 tp (mA 98 12) "BodyChanger.note_state",
 cF "note_state" "BodyChanger.note_state" 1378 575 2 821 822 (r 823) (r 824) (r 825) 1383 3,
 fn (mA 98 12) "BodyChanger.note_state" n (r 826) w0,
 t0,
 d [e P "__module__" 1263 w0,e P "__firstlineno__" 1267 (i 537 1266),e P "is_elder" 1275 (r 743),e P "check_holds" 1284 (r 750),e P "put_item" 1294 (r 757),e P "put_items" 1304 (r 764),e P "put_octet" 1314 (r 771),e P "put_octets" 1324 (r 778),e P "grow" 1332 (r 785),e P "check_entries" 1341 (r 792),e P "check_key" 1349 (r 799),e P "put_entry" 1359 (r 806),e P "drop_entry" 1368 (r 813),e P "set_access" 1377 (r 820),e P "note_state" 1385 (r 827),e P "__static_attributes__" 1386 (r 828),e P "__doc__" 1387 n] 2,
 cl "BodyChanger" "BodyChanger" [r 725] [r 830,r 725,(.type "object")] 829 [some (r 730),none,some (s "BodyChanger" 1256),some (s "BodyChanger" 1264),some (.builtin "object.__new__"),some (.bool true)] (b2 [r 928]),
 o "super" (.fields [r 830,r 830,r 830].toArray),
 o "builtin_function_or_method" (.fields [(.builtin "object.__init_subclass__"),r 830].toArray),
 t [r 830],
 o "builtin_function_or_method" (.fields [(.builtin "type.__prepare__"),(.type "type")].toArray),
 d [e P "__module__" 1397 w0,e P "__qualname__" 1399 (s "Memory" 1398),e P "__firstlineno__" 1401 (i 577 1400),e P "save" 1409 (r 847),e P "place_of_save" 1419 (r 854),e P "is_saved" 1427 (r 861),e P "note_of" 1435 (r 868),e P "sure_place" 1444 (r 875),e P "newer_than" 1453 (r 882),e P "restore" 1468 (r 889),e P "settle_costs" 1480 (r 896),e P "status" 1487 (r 903),e P "collect" 1495 (r 910),e P "reclaim" 1504 (r 918),e P "journal_things" 1511 (r 925),e P "__static_attributes__" 1516 (r 926)] 16,
 t0,
 f [i 579 0,i 4 0,r 846,i 586 0,i 4 0,r 853,i 592 0,i 4 0,r 860,i 595 0,i 4 0,r 867,i 598 0,i 4 0,r 874,i 604 0,i 4 0,r 881,i 607 0,i 4 0,r 888,i 625 0,i 4 0,r 895,i 631 0,i 4 0,r 902,i 634 0,i 4 0,r 909,i 637 0,i 4 0,r 917,i 640 0,i 4 0,r 924],
 cC "Memory" 1392 577 836 837 1395 0,
 fr [some (r 838),some (r 3),some (r 835),none,some w0,none,some (r 0)],
 t [n],
 t0,
 f0,
 t [s "self" 1405,s "note" 1406],
 t0,
 tp (mA 99 0) "Memory.save",
 cF "save" "Memory.save" 1402 579 2 841 842 (r 843) (r 844) (r 845) 1407 3,
 fn (mA 99 0) "Memory.save" (r 840) (r 846) w0,
 t0,
 f0,
 t [s "self" 1413,s "number" 1414,s "place" 1415,s "saved" 1416]]
noncomputable def Jx(P:aV):List Obj:=[
 t0,
 tp (mA 99 1) "Memory.place_of_save",
 cF "place_of_save" "Memory.place_of_save" 1410 586 2 848 849 (r 850) (r 851) (r 852) 1417 3,
 fn (mA 99 1) "Memory.place_of_save" n (r 853) w0,
 t0,
 f0,
 t [s "self" 1423,s "number" 1424],
 t0,
 tp (mA 99 2) "Memory.is_saved",
 cF "is_saved" "Memory.is_saved" 1420 592 2 855 856 (r 857) (r 858) (r 859) 1425 3,
 fn (mA 99 2) "Memory.is_saved" n (r 860) w0,
 t0,
 f0,
 t [s "self" 1431,s "number" 1432],
 t0,
 tp (mA 99 3) "Memory.note_of",
 cF "note_of" "Memory.note_of" 1428 595 2 862 863 (r 864) (r 865) (r 866) 1433 3,
 fn (mA 99 3) "Memory.note_of" n (r 867) w0,
 t0,
 f0,
 t [s "self" 1439,s "number" 1440,s "place" 1441],
 t0,
 tp (mA 99 4) "Memory.sure_place",
 cF "sure_place" "Memory.sure_place" 1436 598 2 869 870 (r 871) (r 872) (r 873) 1442 3,
 fn (mA 99 4) "Memory.sure_place" n (r 874) w0,
 t0,
 f0,
 t [s "self" 1448,s "number" 1449,s "thing" 1450],
 t0,
 tp (mA 99 5) "Memory.newer_than",
 cF "newer_than" "Memory.newer_than" 1445 604 3 876 877 (r 878) (r 879) (r 880) 1451 3,
 fn (mA 99 5) "Memory.newer_than" n (r 881) w0,
 t0,
 f0,
 t [s "self" 1457,s "number" 1458,s "place" 1459,s "saved" 1460,s "undone" 1461,s "body" 1462,s "cost" 1463,s "is_global" 1464,s "level" 1465],
 t0,
 tp (mA 99 6) "Memory.restore",
 cF "restore" "Memory.restore" 1454 607 2 883 884 (r 885) (r 886) (r 887) 1466 3,
 fn (mA 99 6) "Memory.restore" n (r 888) w0,
 t0,
 f0,
 t [s "self" 1472,s "undone" 1473,s "change" 1474,s "cost" 1475,s "is_global" 1476,s "level" 1477],
 t0,
 tp (mA 99 7) "Memory.settle_costs",
 cF "settle_costs" "Memory.settle_costs" 1469 625 2 890 891 (r 892) (r 893) (r 894) 1478 3,
 fn (mA 99 7) "Memory.settle_costs" n (r 895) w0,
 t0,
 f0,
 t [s "self" 1484],
 t0,
 tp (mA 99 8) "Memory.status",
 cF "status" "Memory.status" 1481 631 1 897 898 (r 899) (r 900) (r 901) 1485 3,
 fn (mA 99 8) "Memory.status" n (r 902) w0,
 t0,
 f0,
 t [s "self" 1491,s "roots" 1492],
 t0,
 tp (mA 99 9) "Memory.collect",
 cF "collect" "Memory.collect" 1488 634 2 904 905 (r 906) (r 907) (r 908) 1493 3,
 fn (mA 99 9) "Memory.collect" n (r 909) w0]
noncomputable def Jy(P:aV):List Obj:=[
 t [(.bool false)],
 t0,
 f0,
 t [s "self" 1499,s "roots" 1500,s "is_all" 1501],
 t0,
 tp (mA 99 10) "Memory.reclaim",
 cF "reclaim" "Memory.reclaim" 1496 637 3 912 913 (r 914) (r 915) (r 916) 1502 3,
 fn (mA 99 10) "Memory.reclaim" (r 911) (r 917) w0,
 t0,
 f0,
 t [s "self" 1508],
 t0,
 tp (mA 99 11) "Memory.journal_things",
 cF "journal_things" "Memory.journal_things" 1505 640 1 919 920 (r 921) (r 922) (r 923) 1509 3,
 fn (mA 99 11) "Memory.journal_things" n (r 924) w0,
 t [s "freed" 1512,s "last_save" 1513,s "saves" 1514,s "used" 1515],
 d [e P "__module__" 1397 w0,e P "__firstlineno__" 1401 (i 577 1400),e P "save" 1409 (r 847),e P "place_of_save" 1419 (r 854),e P "is_saved" 1427 (r 861),e P "note_of" 1435 (r 868),e P "sure_place" 1444 (r 875),e P "newer_than" 1453 (r 882),e P "restore" 1468 (r 889),e P "settle_costs" 1480 (r 896),e P "status" 1487 (r 903),e P "collect" 1495 (r 910),e P "reclaim" 1504 (r 918),e P "journal_things" 1511 (r 925),e P "__static_attributes__" 1516 (r 926),e P "__doc__" 1517 n] 2,
 cl "Memory" "Memory" [r 830] [r 928,r 830,r 725,(.type "object")] 927 [some (r 833),none,some (s "Memory" 1390),some (s "Memory" 1398),some (.builtin "object.__new__"),some (.bool true)] [],
 o "super" (.fields [r 928,r 928,r 928].toArray),
 o "builtin_function_or_method" (.fields [(.builtin "object.__init_subclass__"),r 928].toArray),
 t0,
 f0,
 t [s "many" 1523,s "most" 1524],
 t0,
 tp (bg 100) "memory_check_many",
 cF "memory_check_many" "memory_check_many" 1520 642 2 931 932 (r 933) (r 934) (r 935) 1525 3,
 fn (bg 100) "memory_check_many" n (r 936) w0,
 t0,
 f0,
 t [s "change" 1531,s "word" 1532,s "body" 1533,s "entries" 1534,s "keys" 1535,s "key" 1536],
 t0,
 tp (bg 101) "memory_put_back",
 cF "memory_put_back" "memory_put_back" 1528 647 1 938 939 (r 940) (r 941) (r 942) 1537 3,
 fn (bg 101) "memory_put_back" n (r 943) w0,
 t [s "integer" 1543,i 7 1544,(.bool false),i 3 1545],
 t [(by_ [55] 1542),r 945],
 t [s "name" 1547,(by_ [97,98] 1548),(.bool true),i 3 1549],
 t [(by_ [97,98] 1546),r 947],
 t [s "name" 1551,(by_ [120] 1552),(.bool false),i 3 1553],
 t [(by_ [47,120] 1550),r 949],
 t [s "string" 1555,(by_ [97,125,123] 1556),(.bool false),i 3 1557],
 t [(by_ [40,97,125,123,41] 1554),r 951],
 t [s "name" 1559,(by_ [91] 1560),(.bool true),i 3 1561],
 t [(by_ [91] 1558),r 953],
 t [s "name" 1563,(by_ [93] 1564),(.bool true),i 3 1565],
 t [(by_ [93] 1562),r 955],
 t [r 946,r 948,r 950,r 952,r 954,r 956],
 t [(by_ [32] 1567),(by_ [10] 1568),(by_ [13,10] 1569),(by_ [32,37,125,123,10] 1570),(by_ [9,0] 1571),(by_ [32,37,123,13] 1572)],
 t [(by_ [102,105,118,101] 1574),(by_ [114,111,119] 1575),(by_ [102,105,118,101] 1576),(by_ [114,111,119] 1577),(by_ [103,111,110,101] 1578),(by_ [98,97,100] 1579)],
 t0,
 f0,
 t [s "deck" 1584,s "below" 1585,s "at" 1586],
 t0,
 tp (bg 106) "_law_draw",
 cF "_law_draw" "_law_draw" 1581 671 2 960 961 (r 962) (r 963) (r 964) 1587 3,
 fn (bg 106) "_law_draw" n (r 965) w5,
 t0,
 f0,
 t [s "deck" 1593,s "many" 1594,s "is_exec" 1595,s "word" 1596,s "due" 1597],
 t0]
noncomputable def Jz(P:aV):List Obj:=[
 tp (bg 107) "_law_long",
 cF "_law_long" "_law_long" 1590 675 1 967 968 (r 969) (r 970) (r 971) 1598 3,
 fn (bg 107) "_law_long" n (r 972) w5,
 t0,
 f0,
 t [s "deck" 1604,s "found" 1605,s "depth" 1606,s "turn" 1607,s "sort" 1608,s "word" 1609,s "octets" 1610,s "due" 1611],
 t0,
 tp (bg 108) "_law_tokens",
 cF "_law_tokens" "_law_tokens" 1601 680 1 974 975 (r 976) (r 977) (r 978) 1612 3,
 fn (bg 108) "_law_tokens" n (r 979) w5,
 t0,
 f0,
 t [s "tokens" 1618,s "most" 1619,s "is_global" 1620,s "tops" 1621,s "opened" 1622,s "asked" 1623,s "octets" 1624,s "way" 1625,s "due" 1626,s "items" 1627],
 t0,
 tp (bg 109) "_law_read",
 cF "_law_read" "_law_read" 1615 701 3 981 982 (r 983) (r 984) (r 985) 1628 3,
 fn (bg 109) "_law_read" n (r 986) w5,
 t0,
 f0,
 tp (bg 110) "_law_due",
 cF "_law_due" "_law_due" 1631 728 2 988 989 n n (r 990) 1634 3,
 fn (bg 110) "_law_due" n (r 991) w5,
 t0,
 f0,
 tp (bg 111) "_law_told",
 cF "_law_told" "_law_told" 1637 733 3 993 994 n n (r 995) 1640 3,
 fn (bg 111) "_law_told" n (r 996) w5,
 t0,
 f0,
 t [s "most" 1646,s "is_global" 1647,s "memory" 1648,s "row" 1649,s "lookup" 1650],
 t [s "asked" 1651,s "known" 1652],
 tp (bg 112) "_law_world",
 cF "_law_world" "_law_world" 1643 743 2 998 999 (r 1000) (r 1001) (r 1002) 1653 3,
 fn (bg 112) "_law_world" n (r 1003) w5,
 t0,
 f0,
 tp (bg 113) "_law_one_by_one",
 cF "_law_one_by_one" "_law_one_by_one" 1656 755 5 1005 1006 n n (r 1007) 1659 3,
 fn (bg 113) "_law_one_by_one" n (r 1008) w5,
 t0,
 f0,
 tp (bg 114) "_law_at_once",
 cF "_law_at_once" "_law_at_once" 1662 768 5 1010 1011 n n (r 1012) 1665 3,
 fn (bg 114) "_law_at_once" n (r 1013) w5,
 t0,
 f0,
 tp (bg 115) "law",
 cF "law" "law" 1668 777 1 1015 1016 n n (r 1017) 1671 3,
 fn (bg 115) "law" n (r 1018) w5]
noncomputable def st2(P:aV):List dD:=[e P "type.__subclasses__.Exception.0" 242 (i 39 0),e P "type.__subclasses__.Exception.n" 243 (i 1 0)]
noncomputable def iZ(P:aV)(c g k:Nat)(nm:af)(b1 b2:List af→List af):List Obj:=
 [boot_o_0 P,boot_o_1 P,d0 ((st2 P).take k) k,d (e P "__name__" 165 nm::(gl P).take g) (g+1),boot_o_4 P,boot_o_5 P,boot_o_6 P,boot_o_7 P,boot_o_8 P,boot_o_9 P,boot_o_10 P]++
 (Nm P c++Nn P++Np P++Nq P++Nr P++Nt P++Nu P++Nv P++Nx P++Ny P++Jt P++Ju P b1++Jv P++Jw P b2++Jx P++Jy P++Jz P)
noncomputable def alt:List Obj→List Obj×List Obj
 | []=>([],[])
 | [x]=>([x],[])
 | x::y::r=>match alt r with | (a,b)=>(x::a,y::b)
noncomputable def bt:Nat→List Obj→BT
 | 0,_=>.nil
 | _+1,[]=>.nil
 | k+1,x::r=>match alt r with | (a,b)=>.node x (bt k a) (bt k b)
noncomputable def no(_:List af):List af:=[]
noncomputable def OT(P:aV):BT:=bt 12 ((iZ P 0 8 0 (s "__main__" 164) no no).take 15)
noncomputable def RM(P:aV):BT:=bt 12 ((iZ P 15 20 2 w3 no no).take 69)
noncomputable def RN(P:aV):BT:=bt 12 ((iZ P 69 44 2 w2 no no).take 193)
noncomputable def RO(P:aV):BT:=bt 12 ((iZ P 75 48 2 w2 no no).take 236)
noncomputable def RP(P:aV):BT:=bt 12 ((iZ P 99 56 2 w2 no no).take 323)
noncomputable def RQ(P:aV):BT:=bt 12 ((iZ P 117 79 2 w1 no no).take 366)
noncomputable def RS(P:aV):BT:=bt 12 ((iZ P 144 88 2 w1 no no).take 466)
noncomputable def RT(P:aV):BT:=bt 12 ((iZ P 165 95 2 w1 no no).take 515)
noncomputable def RU(P:aV):BT:=bt 12 ((iZ P 168 98 2 w0 no no).take 609)
noncomputable def RW(P:aV):BT:=bt 12 ((iZ P 174 100 2 w0 no no).take 652)
noncomputable def Oj(P:aV):BT:=bt 12 ((iZ P 177 101 2 w0 no no).take 730)
noncomputable def Ol(P:aV):BT:=bt 12 ((iZ P 180 102 2 w0 id no).take 833)
noncomputable def Om(P:aV):BT:=bt 12 ((iZ P 183 103 2 w0 id id).take 931)
noncomputable def z7(P:aV):BT:=bt 12 ((iZ P 219 118 2 w5 id id).take 1020)
noncomputable def oS:Env:={scope:=pw.main.scope,locals:=mainNs,globals:=mainNs,cells:=[],code:=.ref 13,frame:=some 14}
noncomputable def oO:Code:=.body (behindTheImports pw) oS
noncomputable def stk:List Frame:=[topFrame ⟨0,0,0,0⟩]
noncomputable abbrev SS(w:cE)(os:cT)(T:aV→BT)(m k:Nat):SharedT:=⟨T w.params,m,{}, #[],{},k,os⟩
noncomputable def N1:List dO:=((behindTheImports pw).drop 0).take 13
noncomputable def N2:List dO:=((behindTheImports pw).drop 13).take 26
noncomputable def N3:List dO:=((behindTheImports pw).drop 39).take 4
noncomputable def N4:List dO:=((behindTheImports pw).drop 43).take 8
noncomputable def N5:List dO:=((behindTheImports pw).drop 51).take 24
noncomputable def N6:List dO:=((behindTheImports pw).drop 75).take 9
noncomputable def N7:List dO:=((behindTheImports pw).drop 84).take 7
noncomputable def N8:List dO:=((behindTheImports pw).drop 91).take 4
noncomputable def N9:List dO:=((behindTheImports pw).drop 95).take 2
noncomputable def N_:List dO:=((behindTheImports pw).drop 97).take 1
noncomputable def JQ:List dO:=((behindTheImports pw).drop 98).take 1
noncomputable def JR:List dO:=((behindTheImports pw).drop 99).take 1
noncomputable def JS:List dO:=((behindTheImports pw).drop 100).take 16
noncomputable abbrev qS:=PySem.W.Fast.tw14364793385576792824
noncomputable abbrev qQ:=PySem.W.Fast.tw10110043849684766642
theorem TG(w:cE)(os:cT):qQ qS pw w 11 (some (.ref 6)) 1 625 (SS w os OT 15 187) (piecesOf N1 oS oO ⟨0,0,0,0⟩ stk)=some (.next,SS w os RM 69 276,oO,⟨20,0,21,30⟩):=by kernel_rfl
theorem TH(w:cE)(os:cT):qQ qS pw w 11 (some (.ref 6)) 1 644 (SS w os RM 69 276) (piecesOf N2 oS oO ⟨20,0,21,30⟩ stk)=some (.next,SS w os RN 193 455,oO,⟨135,0,135,8⟩):=by kernel_rfl
theorem TJ(w:cE)(os:cT):qQ qS pw w 11 (some (.ref 6)) 1 480 (SS w os RN 193 455) (piecesOf N3 oS oO ⟨135,0,135,8⟩ stk)=some (.next,SS w os RO 236 529,oO,⟨145,0,151,26⟩):=by kernel_rfl
theorem TM(w:cE)(os:cT):qQ qS pw w 11 (some (.ref 6)) 1 640 (SS w os RO 236 529) (piecesOf N4 oS oO ⟨145,0,151,26⟩ stk)=some (.next,SS w os RP 323 643,oO,⟨175,0,176,73⟩):=by kernel_rfl
theorem TN(w:cE)(os:cT):qQ qS pw w 11 (some (.ref 6)) 1 340 (SS w os RP 323 643) (piecesOf N5 oS oO ⟨175,0,176,73⟩ stk)=some (.next,SS w os RQ 366 723,oO,⟨209,0,209,12⟩):=by kernel_rfl
theorem TP(w:cE)(os:cT):qQ qS pw w 11 (some (.ref 6)) 1 624 (SS w os RQ 366 723) (piecesOf N6 oS oO ⟨209,0,209,12⟩ stk)=some (.next,SS w os RS 466 847,oO,⟨284,0,292,48⟩):=by kernel_rfl
theorem TQ(w:cE)(os:cT):qQ qS pw w 11 (some (.ref 6)) 1 223 (SS w os RS 466 847) (piecesOf N7 oS oO ⟨284,0,292,48⟩ stk)=some (.next,SS w os RT 515 915,oO,⟨361,0,366,16⟩):=by kernel_rfl
theorem TR(w:cE)(os:cT):qQ qS pw w 11 (some (.ref 6)) 1 598 (SS w os RT 515 915) (piecesOf N8 oS oO ⟨361,0,366,16⟩ stk)=some (.next,SS w os RU 609 1051,oO,⟨457,0,457,9⟩):=by kernel_rfl
theorem TU(w:cE)(os:cT):qQ qS pw w 11 (some (.ref 6)) 1 495 (SS w os RU 609 1051) (piecesOf N9 oS oO ⟨457,0,457,9⟩ stk)=some (.next,SS w os RW 652 1154,oO,⟨475,0,481,24⟩):=by kernel_rfl
theorem TV(w:cE)(os:cT):qQ qS pw w 11 (some (.ref 6)) 1 545 (SS w os RW 652 1154) (piecesOf N_ oS oO ⟨475,0,481,24⟩ stk)=some (.next,SS w os Oj 730 1256,oO,⟨482,0,536,16⟩):=by kernel_rfl
theorem QE(w:cE)(os:cT):qQ qS pw w 11 (some (.ref 6)) 1 643 (SS w os Oj 730 1256) (piecesOf JQ oS oO ⟨482,0,536,16⟩ stk)=some (.next,SS w os Ol 833 1390,oO,⟨537,0,576,17⟩):=by kernel_rfl
theorem QF(w:cE)(os:cT):qQ qS pw w 11 (some (.ref 6)) 1 631 (SS w os Ol 833 1390) (piecesOf JR oS oO ⟨537,0,576,17⟩ stk)=some (.next,SS w os Om 931 1520,oO,⟨577,0,641,17⟩):=by kernel_rfl
theorem QG(w:cE)(os:cT):qQ qS pw w 11 (some (.ref 6)) 1 467 (SS w os Om 931 1520) (piecesOf JS oS oO ⟨577,0,641,17⟩ stk)=some (.next,SS w os z7 1020 1674,oO,⟨777,0,786,64⟩):=by kernel_rfl
theorem QI(w:cE)(os:cT):topGo treeTable pw w 11 (some (.ref 6)) 12 ⟨boot_heap w.params,mD [],boot_drawn,boot_toks,os⟩ (topStub pw)=some ((SS w os OT 15 187).abs,⟨denote treeTable oO,oO,⟨0,0,0,0⟩,stk⟩):=by kernel_rfl
theorem J8(w:cE)(os:cT):segRun treeTable pw w 11 (some (.ref 6)) 1 1 (SS w os OT 15 187).abs (blockOf (behindTheImports pw) oS oO ⟨0,0,0,0⟩ stk)=some (.next,(SS w os OT 15 187).abs,oO,⟨0,0,0,0⟩):=by kernel_rfl
theorem PI(w:cE)(os:cT):topRun treeTable pw w 11 (some (.ref 6)) 2 (SS w os z7 1020 1674).abs ⟨doneF .next,oO,⟨777,0,786,64⟩,stk⟩=some (SS w os z7 1020 1674).abs:=by kernel_rfl
theorem Mj:behindTheImports pw=N1++(N2++(N3++(N4++(N5++(N6++(N7++(N8++(N9++(N_++(JQ++(JR++(JS++[])))))))))))):=by kernel_rfl
noncomputable def MM:Nat:=12+(1+(625+(644+(480+(640+(340+(624+(223+(598+(495+(545+(643+(631+(467+(2)))))))))))))))
theorem bO(w:cE)(os:cT):topRun treeTable pw w 11 (some (.ref 6)) MM ⟨boot_heap w.params,mD [],boot_drawn,boot_toks,os⟩ (topStub pw)=some (SS w os z7 1020 1674).abs:=by
 have e1:=PySem.W.Fast.te14364793385576792824
 have e2:=PySem.W.Fast.te10110043849684766642
 refine go_top (QI w os) (piece_block (J8 w os) ?_)
 rw[Mj]
 refine piece_app (segRun_of (by rw[e1,e2];exact TG w os)) ?_
 refine piece_app (segRun_of (by rw[e1,e2];exact TH w os)) ?_
 refine piece_app (segRun_of (by rw[e1,e2];exact TJ w os)) ?_
 refine piece_app (segRun_of (by rw[e1,e2];exact TM w os)) ?_
 refine piece_app (segRun_of (by rw[e1,e2];exact TN w os)) ?_
 refine piece_app (segRun_of (by rw[e1,e2];exact TP w os)) ?_
 refine piece_app (segRun_of (by rw[e1,e2];exact TQ w os)) ?_
 refine piece_app (segRun_of (by rw[e1,e2];exact TR w os)) ?_
 refine piece_app (segRun_of (by rw[e1,e2];exact TU w os)) ?_
 refine piece_app (segRun_of (by rw[e1,e2];exact TV w os)) ?_
 refine piece_app (segRun_of (by rw[e1,e2];exact QE w os)) ?_
 refine piece_app (segRun_of (by rw[e1,e2];exact QF w os)) ?_
 refine piece_app (segRun_of (by rw[e1,e2];exact QG w os)) ?_
 exact piece_nil (PI w os)
end
section
set_option tactic.hygienic true
noncomputable def chunkAt(P:aV):Nat→List Obj
 | 0=>(Nm P 219)
 | 1=>(Nn P)
 | 2=>(Np P)
 | 3=>(Nq P)
 | 4=>(Nr P)
 | 5=>(Nt P)
 | 6=>(Nu P)
 | 7=>(Nv P)
 | 8=>(Nx P)
 | 9=>(Ny P)
 | 10=>(Jt P)
 | 11=>(Ju P id)
 | 12=>(Jv P)
 | 13=>(Jw P id)
 | 14=>(Jx P)
 | 15=>(Jy P)
 | 16=>(Jz P)
 | _=>[]
noncomputable def Qw(P:aV):Nat→Obj
 | 1=>boot_o_1 P
 | 2=>d0 ((st2 P).take 2) 2
 | 3=>d (e P "__name__" 165 (s "law_pq0918_01" 1540)::(gl P).take 118) 119
 | a=>(chunkAt P ((a-11) / 60)).getD ((a-11) % 60) default
noncomputable def Fe:List Nat:=[1,2,3,20,21,22,29,35,36,37,38,39,40,43,50,51,52,60,61,67,68,74,75,81,82,88,89,95,96,102,103,109,110,116,117,123,124,130,131,135,136,142,143,149,150,156,157,163,164,170,171,177,178,184,185,191,192,200,206,207,208,209,210,211,212,227,228,229,230,231,232,233,248,249,250,251,252,253,254,269,270,271,272,273,274,275,283,284,290,291,292,298,299,305,306,307,313,314,315,321,322,323,329,330,336,337,343,344,350,351,357,358,364,365,373,379,380,386,387,388,394,395,401,402,403,404,405,406,407,415,416,422,423,429,430,436,437,443,444,450,451,457,458,464,465,471,472,478,479,485,486,492,493,499,500,506,507,513,514,527,528,534,535,541,542,548,549,555,556,562,563,569,570,576,577,578,584,585,586,592,593,594,600,601,602,603,604,605,606,616,622,623,624,625,626,627,628,643,644,645,646,647,648,649,664,665,671,672,673,679,680,686,687,693,694,700,701,707,708,714,715,721,722,723,724,725,726,727,730,742,743,749,750,756,757,763,764,770,771,777,778,784,785,791,792,798,799,805,806,812,813,819,820,826,827,828,829,830,833,840,846,847,853,854,860,861,867,868,874,875,881,882,888,889,895,896,902,903,909,910,911,917,918,924,925,926,927,928,936,937,943,944,945,946,947,948,949,950,951,952,953,954,955,956,957,958,959,965,966,972,973,979,980,986,987,991,992,996,997,1003,1004,1008,1009,1013,1014,1018,1019]
noncomputable def KK(P:aV):Frag:=Fe.map λa=>(a,Qw P a)
noncomputable def H1(P:aV):b9:=absHeap (z7 P) 1020 {}
noncomputable def qv:cP:={pw with main:={pw.main with body:=[bg 115]}}
noncomputable def kj:List Str:=(["_wall","GRAIN","LEAST_INT","MOST_INT","WHITE","DELIMITERS","LINE_FEED","CARRIAGE_RETURN","PostError","PsError","is_white","is_delimiter","is_line_end","is_octal","hex_value","digit_value","INTEGER","REAL","MOST_REAL","PLACES","WORD_SIZE","FEW_FIGURES","divided","is_integer_size","checked_real","real_of","whole_number","figures_value","figures_joined","read_radix","signed_word","read_exponent","number_scaled","split_at","read_real","read_number","READ_ONLY","UNLIMITED","Thing","Text","Row","Span","integer","real","name","null","of_string","of_row","of_packed","is_in_array","body_of","is_local","octets_of_span","things_of_span","SCAN_END","SCAN_FORM_FEED","SCAN_BASE","SCAN_FIRST","SCAN_OPEN","SCAN_CLOSE","SCAN_SLASH","SCAN_LESS","SCAN_MORE","SCAN_BACKSLASH","SCAN_ROW_OPEN","SCAN_ROW_CLOSE","SCAN_PROC_OPEN","SCAN_PROC_CLOSE","SCAN_TILDE","SCAN_NOUGHTS","SCAN_PERCENT","OctetSource","is_blank","scan_skip_feed","scan_line","scan_first","scan_word","scan_sure","scan_octal","scan_escape","scan_string","scan_hex","scan_group","scan_base85","scan_name","scan_regular","scan_at_once","Scanner","ITEM_COST","MOST_COST","Limits","VmSave","BodyMaker","BodyChanger","Memory","memory_check_many","memory_put_back","_law_things","_law_between","_law_asked","_law_draw","_law_long","_law_tokens","_law_read","_law_due","_law_told","_law_world","_law_one_by_one","_law_at_once"]:List String).map d_
noncomputable def hook:Hook:=kmHook KK Fe (λ_=>by kernel_rfl) [999]
theorem open_:∀ w:cE,(fencedOpening treeTable pw w 14010).map (λs=>(s.heap,s.gens,s.drawn,s.toks))=some (boot_heap w.params,mD [],boot_drawn,boot_toks):=
 boot_open (by kernel_rfl) (by kernel_rfl) (λs=>by kernel_rfl)
theorem NY:∀ w:cE,((boot_heap w.params).isNs mainGlobals&&(mD ([]:List GenState)).size == 0,(boot_heap w.params).objs.size,(boot_heap w.params).nsMap mainGlobals "__annotations__")=(true,11,some (.ref 6)):=λw=>by kernel_rfl
theorem Ti:aO MM 14010=true:=by kernel_rfl
end
section
set_option tactic.hygienic true
noncomputable abbrev SF(w:cE)(os:cT):ah:=⟨H1 w.params,mD [],{},1674,os⟩
noncomputable abbrev XT:ah→Bool:=λs=>xlAt qv [] s&&recOk (RowW.records (cW.row.toRowW)) s
theorem M4(w:cE)(os:cT):(staticsOk (importedModules pw.main.body) (boot_heap w.params) (H1 w.params))=true:=by kernel_rfl
theorem M5(w:cE)(os:cT):namesBound pw (H1 w.params)=true:=by
 unfold namesBound;rw[PySem.W.Fast.te18344453789297297638,PySem.W.Fast.te3471404346716756564,PySem.W.Fast.sDec_eq];kernel_rfl
theorem M6(w:cE)(os:cT):gensDone (SF w os)=true:=by kernel_rfl
theorem M7(w:cE)(os:cT):laidKept (boot_heap w.params) (H1 w.params)=true:=by kernel_rfl
theorem EW(t:BT)(n:Nat)(life:Life):(absHeap t n life).get? =λa=>Heap.get? ⟨(if a<n then[(t.get a).getD default] else[]).toArray,life⟩ 0:=by
 funext a
 unfold Heap.get?
 rw[absHeap_at]
 by_cases h:a<n
 ·rw[if_pos h,if_pos h];rfl
 ·rw[if_neg h,if_neg h];rfl
theorem M8(w:cE)(os:cT):hook.obs (SF w os)=hook.val w:=by
 show(Fe.map (absHeap (z7 w.params) 1020 {}).get?,[999].map (absHeap (z7 w.params) 1020 {}).get?)=_
 rw[EW];kernel_rfl
end
section
set_option tactic.hygienic true
theorem M9(w:cE)(os:cT):openSeen qv kj (importedModules pw.main.body) XT true (SF w os)=openGood qv kj:=by
 rw[PySem.W.Fast.te4187177175401517315];kernel_rfl
end
section
set_option tactic.hygienic true
theorem Pb{a b c d:Bool}(h1:a=true)(h2:b=true)(h3:c=true)(h4:d=true):(a&&b&&c&&d)=true:=by rw[h1,h2,h3,h4];rfl
theorem NI{α β:Type}{a:Bool}{b b':α}{c c':β}(h1:a=true)(h2:b=b')(h3:c=c'):(a,b,c)=(true,b',c'):=by rw[h1,h2,h3]
theorem KW(w:cE):(λos=>((staticsOk (importedModules pw.main.body) (boot_heap w.params) (H1 w.params)&&namesBound pw (H1 w.params)&&gensDone (SF w os)&&laidKept (boot_heap w.params) (H1 w.params),
  openSeen qv kj (importedModules pw.main.body) XT true (SF w os),hook.obs (SF w os))))=λ_=>(true,openGood qv kj,hook.val w):=
 funext λos=>NI (Pb (M4 w os) (M5 w os) (M6 w os) (M7 w os)) (M9 w os) (M8 w os)
end
section
set_option tactic.hygienic true
theorem O9(w:cE)(os:cT):(SS w os z7 1020 1674).abs=⟨H1 w.params,mD [],{},1674,os⟩:=by
 kernel_rfl
theorem NS(w:cE)(os:cT):topRun treeTable pw w 11 (some (.ref 6)) MM ⟨boot_heap w.params,mD [],boot_drawn,boot_toks,os⟩ (topStub pw)=some ⟨H1 w.params,mD [],{},1674,os⟩:=(bO w os).trans (congrArg some (O9 w os))
theorem MW:LeftO pw qv kj XT hook.obs hook.val 14010:=
 @LeftO.of_pieces pw qv kj XT _ hook.obs hook.val 14010 true boot_heap H1 (mD []) (mD []) boot_drawn {} boot_toks 1674 11 (some (.ref 6)) MM open_ NY NS Ti KW
end
section
set_option tactic.hygienic true
noncomputable abbrev lA:=cW.row
theorem Qi:(defOf qv lA.name).isSome=true:=by kernel_rfl
noncomputable def yX:DefRec×List (Str×aJ):=(defOf qv lA.name).get Qi
theorem def_:defOf qv lA.name=some (yX.1,yX.2):=by kernel_rfl
theorem IE:lA.prog.theDef lA.name=some (yX.1.params,yX.1.body,yX.1.scope):=by kernel_rfl
theorem Th:kwWritten? yX.1.params.kwonlyargs yX.1.params.kw_defaults=some yX.2:=by kernel_rfl
theorem Tw:(chainsOk qv&&opensWell lA.prog&&(frees lA.toRowW&&lA.within.isEmpty))=true:=by kernel_rfl
theorem Lx:lA.prog.tablesWhole=true:=by kernel_rfl
theorem Mg:lA.prog.bare:=⟨rfl,rfl,rfl,rfl,rfl,Lx⟩
theorem JH:lA.promised:=⟨[.list []],by decide+kernel,by decide+kernel⟩
end
section
set_option tactic.hygienic true
noncomputable abbrev lw:OpenLaw:=cW
theorem T3:namesResolve lw.row.prog=true:=by rw[PySem.W.Fast.te8377067652309620493];kernel_rfl
theorem T4:noRoadLSs {strict:= !(importedModules lw.row.prog.main.body).all cThrough.contains,foot:=none,bare:=(["vars","dir","locals"]:List Str).filter (readsOut lw.row.prog lw.row.prog.main.body)} lw.row.prog.main.body=true:=by
 rw[PySem.W.Fast.te8326940854005059898,PySem.W.Fast.te13343964577679436407,PySem.W.Fast.te5923862056798008813];kernel_rfl
theorem T5:(namesMeet lw.row.prog lw.row.prog.main.body λ_ n=>attrL n)=true:=by
 rw[j5,PySem.W.Fast.te17868728402115742887];kernel_rfl
theorem QU:(namesMeet lw.prog lw.above λ_ n=> !lw.own.contains n)=true:=by
 rw[j5,PySem.W.Fast.te10792542408131684335,PySem.W.Fast.sDec_eq];kernel_rfl
theorem NU:lw.wellSaid=true:=by
 unfold OpenLaw.wellSaid OpenRow.wellSaid OpenRow.partSaid looksOpen
 repeat' (with_reducible refine look_both ?_ ?_)
 all_goals first
  | with_reducible exact T3
  | with_reducible exact T4
  | with_reducible exact T5
  | with_reducible exact QU
  | ((try rw[j5]);(try rw[PySem.W.Fast.te8326940854005059898]);(try rw[PySem.W.Fast.te8179353310426384613]);(try rw[PySem.W.Fast.te16286561074155671207]);(try rw[PySem.W.Fast.te18344453789297297638]);(try rw[PySem.W.Fast.te6984425678791042302]);(try rw[PySem.W.Fast.te797321630700447069]);(try rw[PySem.W.Fast.sDec_eq]);kernel_rfl)
end
end MineH
end
section
open PySem PySem.W PyProof.Rows PySem.Spec PySem.Calls
namespace Mine
section
open PySem.Sem (wp)
theorem gy{p:Prop}(h:false=true):p:=Bool.noConfusion h
theorem jd{α:Type _}{a:α}{p:Prop}(h:a ∈ ([]:List α)):p:=absurd h List.not_mem_nil
theorem Ag{α:Type _}{a:α}{p:Prop}(h:some a=none):p:=Option.noConfusion rfl (heq_of_eq h)
theorem bR{α:Type _}{a:α}{p:Prop}(h:none=some a):p:=Ag h.symm
theorem fO{p:Prop}(h:(p→False)→False):p:=Classical.byContradiction h
theorem A2{a b G:Prop}(h:a∧b)(k:a→b→G):G:=k h.1 h.2
theorem A3{a b c G:Prop}(h:a∧b∧c)(k:a→b→c→G):G:=k h.1 h.2.1 h.2.2
theorem A4{a b c d G:Prop}(h:a∧b∧c∧d)(k:a→b→c→d→G):G:=k h.1 h.2.1 h.2.2.1 h.2.2.2
theorem A5{a b c d e G:Prop}(h:a∧b∧c∧d∧e)(k:a→b→c→d→e→G):G:=k h.1 h.2.1 h.2.2.1 h.2.2.2.1 h.2.2.2.2
theorem A6{a b c d e f G:Prop}(h:a∧b∧c∧d∧e∧f)(k:a→b→c→d→e→f→G):G:=k h.1 h.2.1 h.2.2.1 h.2.2.2.1 h.2.2.2.2.1 h.2.2.2.2.2
theorem A7{a b c d e f g G:Prop}(h:a∧b∧c∧d∧e∧f∧g)(k:a→b→c→d→e→f→g→G):G:=k h.1 h.2.1 h.2.2.1 h.2.2.2.1 h.2.2.2.2.1 h.2.2.2.2.2.1 h.2.2.2.2.2.2
theorem A8{a b c d e f g i G:Prop}(h:a∧b∧c∧d∧e∧f∧g∧i)(k:a→b→c→d→e→f→g→i→G):G:=k h.1 h.2.1 h.2.2.1 h.2.2.2.1 h.2.2.2.2.1 h.2.2.2.2.2.1 h.2.2.2.2.2.2.1 h.2.2.2.2.2.2.2
theorem E1_1{m5:Sort _}{a:m5→Prop}{G:Prop}(h:∃ x0,a x0)(k:∀ x0,a x0→G):G:=h.elim λx0 h=>k x0 h
theorem E1_2{m5:Sort _}{a b:m5→Prop}{G:Prop}(h:∃ x0,a x0∧b x0)(k:∀ x0,a x0→b x0→G):G:=h.elim λx0 h=>A2 h (k x0)
theorem E1_3{m5:Sort _}{a b c:m5→Prop}{G:Prop}(h:∃ x0,a x0∧b x0∧c x0)(k:∀ x0,a x0→b x0→c x0→G):G:=h.elim λx0 h=>A3 h (k x0)
theorem E1_4{m5:Sort _}{a b c d:m5→Prop}{G:Prop}(h:∃ x0,a x0∧b x0∧c x0∧d x0)(k:∀ x0,a x0→b x0→c x0→d x0→G):G:=h.elim λx0 h=>A4 h (k x0)
theorem E1_5{m5:Sort _}{a b c d e:m5→Prop}{G:Prop}(h:∃ x0,a x0∧b x0∧c x0∧d x0∧e x0)(k:∀ x0,a x0→b x0→c x0→d x0→e x0→G):G:=h.elim λx0 h=>A5 h (k x0)
theorem E2_1{m5:Sort _}{α1:Sort _}{a:m5→α1→Prop}{G:Prop}(h:∃ x0 x1,a x0 x1)(k:∀ x0 x1,a x0 x1→G):G:=h.elim λx0 h=>E1_1 h (k x0)
theorem E2_2{m5:Sort _}{α1:Sort _}{a b:m5→α1→Prop}{G:Prop}(h:∃ x0 x1,a x0 x1∧b x0 x1)(k:∀ x0 x1,a x0 x1→b x0 x1→G):G:=h.elim λx0 h=>E1_2 h (k x0)
theorem E2_3{m5:Sort _}{α1:Sort _}{a b c:m5→α1→Prop}{G:Prop}(h:∃ x0 x1,a x0 x1∧b x0 x1∧c x0 x1)(k:∀ x0 x1,a x0 x1→b x0 x1→c x0 x1→G):G:=h.elim λx0 h=>E1_3 h (k x0)
theorem E2_4{m5:Sort _}{α1:Sort _}{a b c d:m5→α1→Prop}{G:Prop}(h:∃ x0 x1,a x0 x1∧b x0 x1∧c x0 x1∧d x0 x1)(k:∀ x0 x1,a x0 x1→b x0 x1→c x0 x1→d x0 x1→G):G:=h.elim λx0 h=>E1_4 h (k x0)
theorem E2_7{m5:Sort _}{α1:Sort _}{a b c d e f g:m5→α1→Prop}{G:Prop}(h:∃ x0 x1,a x0 x1∧b x0 x1∧c x0 x1∧d x0 x1∧e x0 x1∧f x0 x1∧g x0 x1)(k:∀ x0 x1,a x0 x1→b x0 x1→c x0 x1→d x0 x1→e x0 x1→f x0 x1→g x0 x1→G):G:=h.elim λx0 h=>h.elim λx1 h=>A7 h (k x0 x1)
theorem E3_1{m5:Sort _}{α1:Sort _}{α2:Sort _}{a:m5→α1→α2→Prop}{G:Prop}(h:∃ x0 x1 x2,a x0 x1 x2)(k:∀ x0 x1 x2,a x0 x1 x2→G):G:=h.elim λx0 h=>E2_1 h (k x0)
theorem E3_2{m5:Sort _}{α1:Sort _}{α2:Sort _}{a b:m5→α1→α2→Prop}{G:Prop}(h:∃ x0 x1 x2,a x0 x1 x2∧b x0 x1 x2)(k:∀ x0 x1 x2,a x0 x1 x2→b x0 x1 x2→G):G:=h.elim λx0 h=>E2_2 h (k x0)
theorem E3_3{m5:Sort _}{α1:Sort _}{α2:Sort _}{a b c:m5→α1→α2→Prop}{G:Prop}(h:∃ x0 x1 x2,a x0 x1 x2∧b x0 x1 x2∧c x0 x1 x2)(k:∀ x0 x1 x2,a x0 x1 x2→b x0 x1 x2→c x0 x1 x2→G):G:=h.elim λx0 h=>E2_3 h (k x0)
theorem E3_4{m5:Sort _}{α1:Sort _}{α2:Sort _}{a b c d:m5→α1→α2→Prop}{G:Prop}(h:∃ x0 x1 x2,a x0 x1 x2∧b x0 x1 x2∧c x0 x1 x2∧d x0 x1 x2)(k:∀ x0 x1 x2,a x0 x1 x2→b x0 x1 x2→c x0 x1 x2→d x0 x1 x2→G):G:=h.elim λx0 h=>E2_4 h (k x0)
theorem E4_1{m5:Sort _}{α1:Sort _}{α2:Sort _}{α3:Sort _}{a:m5→α1→α2→α3→Prop}{G:Prop}(h:∃ x0 x1 x2 x3,a x0 x1 x2 x3)(k:∀ x0 x1 x2 x3,a x0 x1 x2 x3→G):G:=h.elim λx0 h=>E3_1 h (k x0)
theorem E4_4{m5:Sort _}{α1:Sort _}{α2:Sort _}{α3:Sort _}{a b c d:m5→α1→α2→α3→Prop}{G:Prop}(h:∃ x0 x1 x2 x3,a x0 x1 x2 x3∧b x0 x1 x2 x3∧c x0 x1 x2 x3∧d x0 x1 x2 x3)(k:∀ x0 x1 x2 x3,a x0 x1 x2 x3→b x0 x1 x2 x3→c x0 x1 x2 x3→d x0 x1 x2 x3→G):G:=h.elim λx0 h=>E3_4 h (k x0)
theorem E4_5{m5:Sort _}{α1:Sort _}{α2:Sort _}{α3:Sort _}{a b c d e:m5→α1→α2→α3→Prop}{G:Prop}(h:∃ x0 x1 x2 x3,a x0 x1 x2 x3∧b x0 x1 x2 x3∧c x0 x1 x2 x3∧d x0 x1 x2 x3∧e x0 x1 x2 x3)(k:∀ x0 x1 x2 x3,a x0 x1 x2 x3→b x0 x1 x2 x3→c x0 x1 x2 x3→d x0 x1 x2 x3→e x0 x1 x2 x3→G):G:=h.elim λx0 h=>h.elim λx1 h=>h.elim λx2 h=>E1_5 h (k x0 x1 x2)
theorem E7_4{m5:Sort _}{α1:Sort _}{α2:Sort _}{α3:Sort _}{Uc:Sort _}{Ud:Sort _}{Ue:Sort _}{a b c d:m5→α1→α2→α3→Uc→Ud→Ue→Prop}{G:Prop}(h:∃ x0 x1 x2 x3 x4 x5 x6,a x0 x1 x2 x3 x4 x5 x6∧b x0 x1 x2 x3 x4 x5 x6∧c x0 x1 x2 x3 x4 x5 x6∧d x0 x1 x2 x3 x4 x5 x6)(k:∀ x0 x1 x2 x3 x4 x5 x6,a x0 x1 x2 x3 x4 x5 x6→b x0 x1 x2 x3 x4 x5 x6→c x0 x1 x2 x3 x4 x5 x6→d x0 x1 x2 x3 x4 x5 x6→G):G:=h.elim λx0 h=>h.elim λx1 h=>h.elim λx2 h=>E4_4 h (k x0 x1 x2)
noncomputable def p7:List String:=["bytearray.__contains__","bytearray.__mod__","bytearray.__rmod__","_struct.pack_into.held","bytearray.find.held"]++Builtin.Bytes.decodersThatHold
noncomputable def iY:Code→Bool
 | .builtin id _=>p7.contains id
 | _=>false
noncomputable def Good(Γ:PySem.Ctx):Prop:=((Γ.code,default)::Γ.below:List (Code×Pos)).any (λc=>iY c.1)=false
theorem Good.enter{Γ:PySem.Ctx}(g:Good Γ){c:Code}(h:iY c=false)(hd:Option af)(p:Pos):Good (Γ.enter c hd p):=by
 unfold Good at g ⊢
 show((c,default)::(Γ.code,p)::Γ.below:List (Code×Pos)).any (λc=>iY c.1)=false
 simp only[j0] at g ⊢
 rw[h];exact g
theorem Good.goto{Γ:PySem.Ctx}(g:Good Γ){c:Code}(h:iY c=false):Good (Γ.goto c):=by
 unfold Good at g ⊢
 show((c,default)::Γ.below:List (Code×Pos)).any (λc=>iY c.1)=false
 simp only[j0,dW] at g ⊢
 exact⟨h,g.2⟩
noncomputable def aA{α:Type}(M:g6)(A:bC)(t:Sem α)(Q:α→ah→Prop)(E:af→ah→Prop)(s:ah):Prop:=
 ∀ Γ p,Γ.In A→Good Γ→wp M Γ t (λa z_ s'=>Q a s') (λe z_ s'=>E e s') p s
noncomputable def dF(M:g6)(A:bC)(c:Code)(R:j6→ah→Prop)(s:ah):Prop:=
 ∀ Γ p,Γ.code=c→Γ.Below A→Good Γ→wpCode M Γ R p s
section
variable{α β:Type}{M:g6}{A:bC}{E:af→ah→Prop}{s:ah}
theorem bS{t:Sem α}{Q:α→ah→Prop}(h:wpAny M A t Q E s):aA M A t Q E s:=λΓ p hΓ z_=>h Γ p hΓ
theorem FG{c:Code}{R:j6→ah→Prop}(h:codeAny M A c R s):dF M A c R s:=λΓ p hc hΓ z_=>h Γ p hc hΓ
theorem lu{t:Sem α}{Q Q':α→ah→Prop}{E':af→ah→Prop}(h:aA M A t Q E s)(hQ:∀ a s,Q a s→Q' a s)(hE:∀ e s,E e s→E' e s):aA M A t Q' E' s:=
 λΓ p hΓ g=>Sem.wp_mono M Γ t (λa z_ s=>hQ a s) (λe z_ s=>hE e s) p s (h Γ p hΓ g)
theorem aN{t:Sem α}{Q Q':α→ah→Prop}(h:aA M A t Q E s)(hQ:∀ a s,Q a s→Q' a s):aA M A t Q' E s:=lu h hQ λz_ z_ x=>x
theorem ai{m:Sem α}{f:α→Sem β}{Q:β→ah→Prop}(h:aA M A m (λa s'=>aA M A (f a) Q E s') E s):aA M A (m>>=f) Q E s:=λΓ p hΓ g=>by
 rw[Sem.wp_bind']
 exact Sem.wp_mono M Γ m (λa p' s' h'=>h' Γ p' hΓ g) (λz_ z_ z_ h'=>h') p s (h Γ p hΓ g)
theorem aD{a:α}{Q:α→ah→Prop}(h:Q a s):aA M A (pure a) Q E s:=λz_ z_ z_ z_=>h
theorem iL{m:Sem α}{k:af→Sem Unit}{Q:α→ah→Prop}(h:aA M A m Q (λe s'=>aA M A (k e) (λz_ s''=>E e s'') E s') s):aA M A (m.onRaise k) Q E s:=λΓ p hΓ g=>by
 rw[Sem.wp_onRaise]
 exact Sem.wp_mono M Γ m (λz_ z_ z_ h'=>h') (λe p' s' h'=>h' Γ p' hΓ g) p s (h Γ p hΓ g)
theorem qJ{m:Sem α}{Q:Except af α→ah→Prop}(h:aA M A m (λa=>Q (.ok a)) (λe=>Q (.error e)) s):aA M A m.attempt Q E s:=λΓ p hΓ g=>by
 rw[Sem.wp_attempt];exact h Γ p hΓ g
theorem aM{vs:List af}{m:Sem α}{Q:α→ah→Prop}(h:aA M A m Q E s):aA M A (holding vs m) Q E s:=λΓ p hΓ g=>by
 rw[Sem.wp_holding];exact h Γ p hΓ g
theorem KZ{vs:List af}{m:Sem α}{Q:α→ah→Prop}(h:aA M A m Q E s):aA M A (m.keep vs) Q E s:=λΓ p hΓ g=>by
 rw[Sem.wp_keep];exact h Γ p hΓ g
theorem ng{vs:List af}{m:Sem af}{Q:af→ah→Prop}(h:aA M A m Q E s):aA M A (operate vs m) Q E s:=λΓ p hΓ g=>by
 rw[Sem.wp_operate];exact h Γ p hΓ g
theorem bG{pos:Pos}{Q:Unit→ah→Prop}(h:Q () s):aA M A (standAt pos) Q E s:=λz_ z_ z_ z_=>h
theorem Cj{Q:Unit→ah→Prop}(h:Q () s):aA M A point Q E s:=λz_ z_ z_ z_=>h
theorem tQ{tag:String}{Q:Unit→ah→Prop}(h:Q () s):aA M A (rule tag) Q E s:=λz_ z_ z_ z_=>h
theorem nh{vs keep:List af}{Q:Unit→ah→Prop}(h:Q () s):aA M A (release vs keep) Q E s:=λΓ p z_ z_=>by
 rw[Sem.wp_release];exact h
theorem fR{m:Sem α}{r:α}{Q:α→ah→Prop}(L:cH M s.heap m r)(h:Q r s):aA M A m Q E s:=bS (L.here h)
theorem n_eq{m:Sem α}{r:α}{Q:α→ah→Prop}(e:m=pure r)(h:Q r s):aA M A m Q E s:=by rw[e];exact aD h
theorem ni{c:Code}{R R':j6→ah→Prop}(h:dF M A c R s)(hR:∀ r s,R r s→R' r s):dF M A c R' s:=
 λΓ p hc hΓ g=>wpCode_mono hR (h Γ p hc hΓ g)
theorem gJ{c:Code}{R:j6→ah→Prop}(hn:iY c=false)
  (h:aA M (A.under c) (M.den c) (λfin s'=>match fin with | .done f=>R (.ok f) s' | .again c'=>iY c'=false∧c'.quiet=true∧dF M A c' R s') (λe s'=>R (.error e) s') s):dF M A c R s:=λΓ p hc hΓ g=>by
 rw[wpCode_iff_wp,hc]
 refine Sem.wp_mono M Γ _ (λfin p' s' h'=>?_) (λz_ z_ z_ h'=>h') p s (h Γ p (hc▸hΓ.in) g)
 cases fin with
 | done f=>exact h'
 | again c'=>exact⟨h'.2.1,h'.2.2 (Γ.goto c') p' rfl (hΓ.goto c') (g.goto h'.1)⟩
theorem Cm{c:Code}{R:j6→ah→Prop}(hn:iY c=false)(hq:c.quiet=true)(I:Nat→ah→Prop)
  (turn:∀ n s,I n s→aA M (A.under c) (M.den c) (λfin s'=>match fin with | .done f=>R (.ok f) s' | .again c'=>c'=c∧∃ m,m<n∧I m s') (λe s'=>R (.error e) s') s)
  (n:Nat)(h:I n s):dF M A c R s:=by
 induction n using Nat.strongRecOn generalizing s with
 | ind n ih=>
  refine gJ hn (lu (turn n s h) (λfin s' hf=>?_) λz_ z_ h'=>h')
  cases fin with
  | done f=>exact hf
  | again c'=>obtain⟨rfl,m,hm,hI⟩:=hf;exact⟨hn,hq,ih m hm hI⟩
theorem Jr{c:Code}{h:Option af}{Q:Flow→ah→Prop}(hn:iY c=false)
  (hc:dF M (A.mark h) c (λr s'=>match r with | .ok f=>Q f s' | .error e=>E e s') s)(hnb:h≠some byPass:=by intro x;cases x):aA M A (run c h) Q E s:=λΓ p hΓ g=>by
 rw[Sem.wp_run];exact hc _ p rfl (hΓ.enter c h p hnb) (g.enter hn h p)
theorem tR{c:Code}{Q:af→ah→Prop}(hn:iY c=false)
  (hc:dF M A c (λr s'=>match r with | .ok (.ret v)=>Q v s' | .ok _=>False | .error e=>E e s') s):aA M A (runValue c) Q E s:=λΓ p hΓ g=>by
 rw[Sem.wp_runValue];exact hc _ p rfl (hΓ.enter c none p (by intro x;cases x)) (g.enter hn none p)
theorem jo{f:af}{pos:List af}{kw:List (Str×af)}{Q:af→ah→Prop}
  (hc:dF M A (.call f ⟨pos,kw⟩) (λr s'=>match r with | .ok (.ret v)=>Q v s' | .ok _=>False | .error e=>E e s') s):aA M A (call f pos kw) Q E s:=tR rfl hc
theorem gI{c:Prop}[Decidable c]{a b:Sem α}{Q:α→ah→Prop}(hc:¬c)(h:aA M A b Q E s):aA M A (if c then a else b) Q E s:=by rw[if_neg hc];exact h
theorem Nf{c:Prop}[Decidable c]{a b:Sem α}{Q:α→ah→Prop}(hc:c)(h:aA M A a Q E s):aA M A (if c then a else b) Q E s:=by rw[if_pos hc];exact h
theorem Qq{c:Prop}[Decidable c]{a b:Sem α}{Q:α→ah→Prop}(h1:c→aA M A a Q E s)(h2:¬c→aA M A b Q E s):aA M A (if c then a else b) Q E s:=by
 by_cases h:c
 ·rw[if_pos h];exact h1 h
 ·rw[if_neg h];exact h2 h
end
section
variable{M:g6}{A:bC}{E:af→ah→Prop}{s:ah}{env:Env}
theorem ly{Q:List af→ah→Prop}(h:Q [] s):aA M A (spliced []) Q E s:=aD h
theorem kq{x:Sem af}{rest:List (Bool×Sem af)}{Q:List af→ah→Prop}
  (h:aA M A x (λv s'=>aA M A (spliced rest) (λvs s''=>Q (v::vs) s'') E s') E s):aA M A (spliced ((false,x)::rest)) Q E s:=by
 show aA M A (do let v ←x;let here ←(pure [v]:Sem (List af));return here++(←holding here (spliced rest))) Q E s
 exact ai (aN h λv s' h'=>ai (aD (ai (aM (aN h' λvs s'' h''=>aD h'')))))
theorem AZ{x:Sem af}{rest:List (Sem af)}{Q:List af→ah→Prop}
  (h:aA M A x (λv s'=>aA M A (evalAll rest) (λvs s''=>Q (v::vs) s'') E s') E s):aA M A (evalAll (x::rest)) Q E s:=by
 show aA M A (do let v ←x;return v::(←holding [v] (evalAll rest))) Q E s
 exact ai (aN h λv s' h'=>ai (aM (aN h' λvs s'' h''=>aD h'')))
theorem w_{op:BoolOp}{e:aJ}{pos:Pos}{Q:af→ah→Prop}(h:aA M A (eval e env) Q E s):aA M A (eval (.BoolOp op [e] pos) env) Q E s:=h
theorem w9{e e':aJ}{r:List aJ}{pos:Pos}{Q:af→ah→Prop}
  (h:aA M A (eval e env) (λv s1=>aA M A (truthy v) (λc s2=>if c then aA M A (eval (.BoolOp .And (e'::r) pos) env) Q E s2 else Q v s2) E s1) E s):aA M A (eval (.BoolOp .And (e::e'::r) pos) env) Q E s:=by
 show aA M A (do let v ←eval e env;standAt pos;let t ←holding [v] (truthy v);(match BoolOp.And,t with | .And,false | .Or,true=>pure v | _,_=>boolOp pos .And (evalEach (e'::r) env))) Q E s
 refine ai (aN h λv s' h'=>ai (bG (ai (aM (aN h' λc s'' h''=>?_)))))
 cases c with
 | true=>exact h''
 | false=>exact aD h''
theorem ze{e e':aJ}{r:List aJ}{pos:Pos}{Q:af→ah→Prop}
  (h:aA M A (eval e env) (λv s1=>aA M A (truthy v) (λc s2=>if c then Q v s2 else aA M A (eval (.BoolOp .Or (e'::r) pos) env) Q E s2) E s1) E s):aA M A (eval (.BoolOp .Or (e::e'::r) pos) env) Q E s:=by
 show aA M A (do let v ←eval e env;standAt pos;let t ←holding [v] (truthy v);(match BoolOp.Or,t with | .And,false | .Or,true=>pure v | _,_=>boolOp pos .Or (evalEach (e'::r) env))) Q E s
 refine ai (aN h λv s' h'=>ai (bG (ai (aM (aN h' λc s'' h''=>?_)))))
 cases c with
 | true=>exact aD h''
 | false=>exact h''
theorem vK{op:BoolOp}{x:aJ}{r:List aJ}{Q:Bool→ah→Prop}
  (h:aA M A (isTrue x env (eval x env)) (λc s2=>match op,c with | .And,false=>Q false s2 | .Or,true=>Q true s2 | _,_=>aA M A (allTrue op r env) Q E s2) E s):aA M A (allTrue op (x::r) env) Q E s:=by
 show aA M A (do match op, ←isTrue x env (eval x env) with
  | .And,false=>pure false
  | .Or,true=>pure true
  | _,_=>allTrue op r env) Q E s
 refine ai (aN h λc s' h'=>?_)
 cases op <;> cases c <;> first | exact h' | exact aD h'
theorem HY{t b o:aJ}{pos:Pos}{Q:af→ah→Prop}
  (h:aA M A (isTrue t env (eval t env)) (λc s2=>if c then aA M A (eval b env) Q E s2 else aA M A (eval o env) Q E s2) E s):aA M A (eval (.IfExp t b o pos) env) Q E s:=by
 show aA M A (do if ←isTrue t env (eval t env) then eval b env else eval o env) Q E s
 refine ai (aN h λc s' h'=>?_)
 cases c <;> exact h'
theorem tO{t b o:aJ}{pos:Pos}{whole:Sem af}{Q:Bool→ah→Prop}
  (h:aA M A (isTrue t env (eval t env)) (λc s2=>if c then aA M A (isTrue b env (eval b env)) Q E s2 else aA M A (isTrue o env (eval o env)) Q E s2) E s):aA M A (isTrue (.IfExp t b o pos) env whole) Q E s:=by
 show aA M A (do if ←isTrue t env (eval t env) then isTrue b env (eval b env) else isTrue o env (eval o env)) Q E s
 refine ai (aN h λc s' h'=>?_)
 cases c <;> exact h'
theorem xg{x:aJ}{pos:Pos}{whole:Sem af}{Q:Bool→ah→Prop}(h:aA M A (isTrue x env (eval x env)) (λc s2=>Q (!c) s2) E s):aA M A (isTrue (.UnaryOp .Not x pos) env whole) Q E s:=by
 show aA M A (do return !(←isTrue x env (eval x env))) Q E s
 exact ai (aN h λc s' h'=>aD h')
theorem tP{e:aJ}{Q:Bool→ah→Prop}(h:aA M A (eval e env) (λv s1=>aA M A (truthy v) Q E s1) E s)
  (he:isTrue e env (eval e env)=(do let v ←eval e env;standAt e.pos;holding [v] (truthy v))):aA M A (isTrue e env (eval e env)) Q E s:=by
 rw[he]
 exact ai (aN h λv s' h'=>ai (bG (aM h')))
theorem xd{pos:Pos}{a:af}{op:pq}{t:Sem af}{Q:af→ah→Prop}
  (h:aA M A t (λb s'=>aA M A (compareOp op a b) Q E s') E s):aA M A (compareChain pos a [op] [t]) Q E s:=by
 show aA M A (do let rv ←holding [a] t;standAt pos;operate [a,rv] (compareOp op a rv)) Q E s
 exact ai (aM (aN h λb s' h'=>ai (bG (ng h'))))
theorem xe{pos:Pos}{a:af}{op op':pq}{ops:List pq}{t t':Sem af}{ts:List (Sem af)}{Q:af→ah→Prop}
  (h:aA M A t (λb s'=>aA M A (compareOp op a b) (λc s2=>aA M A (truthy c) (λd s3=>if d then aA M A (compareChain pos b (op'::ops) (t'::ts)) Q E s3 else Q c s3) E s2) E s') E s):
  aA M A (compareChain pos a (op::op'::ops) (t::t'::ts)) Q E s:=by
 show aA M A (do
  let rv ←holding [a] t
  standAt pos
  let c ←holding [a,rv] (compareOp op a rv)
  release [a,rv] [c]
  if ←holding [c,rv] (truthy c) then compareChain pos rv (op'::ops) (t'::ts) else pure c) Q E s
 refine ai (aM (aN h λb s' h'=>ai (bG (ai (aM (aN h' λc s2 h2=>ai (nh (ai (aM (aN h2 λd s3 h3=>?_))))))))))
 cases d with
 | true=>exact h3
 | false=>exact aD h3
theorem zk{pos:Pos}{a:af}{op:pq}{t:Sem af}{Q:Bool→ah→Prop}
  (h:aA M A t (λb s'=>aA M A (compareOp op a b) (λc s2=>aA M A (truthy c) Q E s2) E s') E s):aA M A (testChain pos a [op] [t]) Q E s:=by
 show aA M A (do let rv ←holding [a] t;standAt pos;let c ←operate [a,rv] (compareOp op a rv);holding [c] (truthy c)) Q E s
 exact ai (aM (aN h λb s' h'=>ai (bG (ai (ng (aN h' λc s2 h2=>aM h2))))))
theorem zm{pos:Pos}{a:af}{op op':pq}{ops:List pq}{t t':Sem af}{ts:List (Sem af)}{Q:Bool→ah→Prop}
  (h:aA M A t (λb s'=>aA M A (compareOp op a b) (λc s2=>aA M A (truthy c) (λd s3=>if d then aA M A (testChain pos b (op'::ops) (t'::ts)) Q E s3 else Q false s3) E s2) E s') E s):
  aA M A (testChain pos a (op::op'::ops) (t::t'::ts)) Q E s:=by
 show aA M A (do
  let rv ←holding [a] t
  standAt pos
  let c ←holding [a,rv] (compareOp op a rv)
  release [a,rv] [c]
  if ←holding [c,rv] (truthy c) then testChain pos rv (op'::ops) (t'::ts) else pure false) Q E s
 refine ai (aM (aN h λb s' h'=>ai (bG (ai (aM (aN h' λc s2 h2=>ai (nh (ai (aM (aN h2 λd s3 h3=>?_))))))))))
 cases d with
 | true=>exact h3
 | false=>exact aD h3
theorem HX{l r:aJ}{op:Operator}{pos:Pos}{Q:af→ah→Prop}
  (h:aA M A (eval l env) (λa s1=>aA M A (eval r env) (λb s2=>aA M A (binaryOp op a b) Q E s2) E s1) E s):aA M A (eval (.BinOp l op r pos) env) Q E s:=by
 rw[eval_BinOp]
 exact ai (aN h λa s1 h1=>ai (aM (aN h1 λb s2 h2=>ai (bG (ng h2)))))
theorem qI{op:UnaryOp}{x:aJ}{pos:Pos}{Q:af→ah→Prop}(h:aA M A (eval x env) (λv s1=>aA M A (unaryOp op v) Q E s1) E s):aA M A (eval (.UnaryOp op x pos) env) Q E s:=by
 show aA M A (do let v ←eval x env;standAt pos;holding [v] (unaryOp op v)) Q E s
 exact ai (aN h λv s1 h1=>ai (bG (aM h1)))
theorem HZ{es:List aJ}{k:Nat}{pos:Pos}{Q:af→ah→Prop}(h:aA M A (spliced (backTo pos (starEach es env))) (λvs s'=>aA M A (newTuple vs) Q E s') E s):aA M A (eval (.Tuple es k pos) env) Q E s:=by
 show aA M A (do standAt pos;newTuple (←spliced (backTo pos (starEach es env)))) Q E s
 exact ai (bG (ai h))
theorem KY{es:List aJ}{pos:Pos}{Q:af→ah→Prop}(h:aA M A (spliced (backTo pos (starEach es env))) (λvs s'=>aA M A (newList vs) Q E s') E s):aA M A (eval (.List es pos) env) Q E s:=by
 show aA M A (do standAt pos;newList (←spliced (backTo pos (starEach es env)))) Q E s
 exact ai (bG (ai h))
theorem pZ{st:dO}{rest:List dO}{Q:Flow→ah→Prop}
  (h:aA M A (exec st env) (λf s'=>match f with | .next=>aA M A (execs rest env) Q E s' | f=>Q f s') E s):aA M A (execs (st::rest) env) Q E s:=by
 rw[execs_cons]
 refine ai (aN h λf s' h'=>?_)
 cases f <;> first | exact h' | exact aD h'
theorem Qp{t:aJ}{b o:List dO}{pos:Pos}{Q:Flow→ah→Prop}
  (h:aA M A (isTrue t env (eval t env)) (λc s2=>if c then aA M A (execs b env) Q E s2 else aA M A (execs o env) Q E s2) E s):aA M A (exec (.If t b o pos) env) Q E s:=by
 rw[exec_If]
 refine ai (bG (ai (aN h λc s' h'=>?_)))
 cases c <;> exact h'
theorem Fw{e:aJ}{pos:Pos}{Q:Flow→ah→Prop}(h:aA M A (eval e env) (λv s'=>Q (.ret v) s') E s):aA M A (exec (.Return (some e) pos) env) Q E s:=by
 rw[exec_Return_some]
 exact ai (bG (ai (aN h λv s' h'=>aD h')))
noncomputable def jy(x:af)(env:Env):Sem Unit:=do
 if(←field x 1) == .none then unsupported "frame.own-activation:exception-without-traceback"
 setFlight x env.frame
theorem p5{c:Code}{hd:Option af}{Q:Flow→ah→Prop}(hn:iY c=false)
  (h:dF M (A.mark hd) c (λr s'=>match r with | .ok f=>Q f s' | .error x=>aA M A (jy x env) (λz_ s''=>E x s'') E s') s)(hnb:hd≠some byPass:=by intro x;cases x):aA M A (runOwn c env hd) Q E s:=by
 show aA M A ((run c hd).onRaise λx=>jy x env) Q E s
 refine iL (Jr hn ?_ hnb)
 exact ni h λr s' hr=>by cases r <;> exact hr
end
section
variable{prog:cP}{w:cE}{A:bC}{E:af→ah→Prop}{s:ah}{env:Env}
theorem Dl{base:aJ}{o r:af}{Q:Unit→ah→Prop}(h:Q () s):aA (model prog w) A (letTemporaryGo base o r) Q E s:=bS (wpAny_letTemporaryGo h)
theorem zd{value:aJ}{attr:Str}{pos:Pos}{Q:af→ah→Prop}
  (h:aA (model prog w) A (eval value env) (λo s1=>aA (model prog w) A (getAttr o attr true) Q E s1) E s)
  (he:eval (.Attribute value attr pos) env=(do
   let o ←eval value env
   standAt pos.atName
   let r ←holding [o] (getAttr o attr true)
   letTemporaryGo value o r
   pure r)):aA (model prog w) A (eval (.Attribute value attr pos) env) Q E s:=by
 rw[he]
 exact ai (aN h λo s1 h1=>ai (bG (ai (aM (aN h1 λr s2 h2=>ai (Dl (aD h2)))))))
theorem mV{value slice:aJ}{pos:Pos}{Q:af→ah→Prop}
  (h:aA (model prog w) A (eval value env) (λo s1=>aA (model prog w) A (eval slice env) (λi s2=>aA (model prog w) A (subscriptTail value slice o i) Q E s2) E s1) E s):
  aA (model prog w) A (eval (.Subscript value slice pos) env) Q E s:=by
 rw[eval_Subscript]
 exact ai (aN h λo s1 h1=>ai (aM (aN h1 λi s2 h2=>ai (bG h2))))
end
end
section
theorem Rm{d c k l n:Nat}(h:1≤l)(r:d+k*l≤n)(e:c≤k):d+c+k*(l-1)≤n:=by
 cases l with
 | zero=>exact absurd h (Nat.not_succ_le_zero 0)
 | succ j=>
  rw[j3]
  exact aa (bw (aa (bD e _) (aQ (lF _ _))) d) r
theorem kpos{i k n:Nat}(hk:i+k=n)(hi:i<n):k-1<k∧i+1+(k-1)=n:=by
 cases k with
 | zero=>exact absurd hi (gb (aQ hk.symm))
 | succ k=>exact⟨f9 _,(cY i k).trans hk⟩
open Builtin Builtin.ObjectAttr Builtin.Getset_descriptor
noncomputable def Goes(M:g6)(A:bC)(R:j6→ah→Prop)(fin:Fin)(s':ah):Prop:=match fin with
 | .done f=>R (.ok f) s'
 | .again c'=>iY c'=false∧c'.quiet=true∧dF M A c' R s'
noncomputable def noted(M:g6)(A:bC)(env:Env)(E:af→ah→Prop):af→ah→Prop:=λx s'=>aA M A (noteFrame x env) (λz_ s''=>E x s'') E s'
noncomputable def left(M:g6)(A:bC)(env:Env)(R:j6→ah→Prop):af→ah→Prop:=λe s'=>aA M A (leaving env e) (λz_ s''=>R (.error e) s'') (λe' s''=>R (.error e') s'') s'
section
variable{prog:cP}{w:cE}{A:bC}{E:af→ah→Prop}{R:j6→ah→Prop}{s:ah}
theorem ku{id:String}{args:Args}{b:fU}(hn:iY (.builtin id args)=false)(hb:entryFor table id=some b)
  (h:aA (model prog w) (A.under (.builtin id args)) (b args) (Goes (model prog w) A R) (λe s'=>R (.error e) s') s):dF (model prog w) A (.builtin id args) R s:=by
 refine gJ hn ?_
 show aA _ _ (match entryFor table id with | some b=>b args | none=>unsupported ((withoutEnding? id "#data").getD id)) _ _ s
 rw[hb]
 exact aN h λfin s' h'=>by cases fin <;> exact h'
theorem jO{id:String}{args:Args}{b:fU}(hn:iY (.builtin id args)=false)(hq:plainId id=true)(hb:entryFor table id=some b)
  (h:aA (model prog w) A.in1 (checkBuiltinCall id args) (λz_ s₁=>aA (model prog w) A.in1 (b args) (Goes (model prog w) A R) (λe s'=>R (.error e) s') s₁) (λe s'=>R (.error e) s') s):
  dF (model prog w) A (.call (.builtin id) args) R s:=by
 refine gJ rfl ?_
 show aA _ A.in1 (do checkBuiltinCall id args;again (.builtin id args)) _ _ s
 refine ai (aN h λz_ s₁ h₁=>aD ⟨hn,plainId_quiet hq args,ku hn hb ?_⟩)
 rw[Around.under_plainId hq args];exact h₁
theorem xh{M:g6}{α:Type}{env:Env}{m:Sem α}{Q:α→ah→Prop}(h:aA M A m Q (noted M A env E) s):aA M A (m.onRaise λx=>do noteFrame x env;theTreesLotGoes x) Q E s:=
 iL (lu h (λz_ z_ q=>q) λz_ z_ hx=>ai (aN hx λz_ z_ e=>bS (wpAny_theTreesLotGoes e)))
theorem FH{test body orelse env}(I:Nat→ah→Prop)
  (turn:∀ n s,I n s→aA (model prog w) A (isTrue test env (eval test env)) (λb s₂=>
    if b then aA (model prog w) A (execs body env) (λf s₃=>match f with
      | .next | .cont=>∃ m,m<n∧I m s₃
      | .brk=>R (.ok .next) s₃
      | .ret v=>R (.ok (.ret v)) s₃) (noted (model prog w) A env λe s'=>R (.error e) s') s₂
    else aA (model prog w) A (execs orelse env) (λf s₃=>R (.ok f) s₃) (noted (model prog w) A env λe s'=>R (.error e) s') s₂) (noted (model prog w) A env λe s'=>R (.error e) s') s)
  (n:Nat)(h:I n s):dF (model prog w) A (.whileLoop test body orelse env) R s:=by
 refine Cm rfl rfl I (λn s hI=>?_) n h
 show aA _ A ((whileTurn test body orelse env).onRaise (λx=>do noteFrame x env;theTreesLotGoes x)) _ _ s
 refine xh ?_
 show aA _ A (do
  if ←isTrue test env (eval test env) then
   match ←execs body env with
   | .next | .cont=>again (.whileLoop test body orelse env)
   | .brk=>pure (.done .next)
   | .ret v=>pure (.done (.ret v))
  else return .done (←execs orelse env)) _ _ s
 refine ai (aN (turn n s hI) λb s₂ h₂=>?_)
 cases b with
 | false=>exact ai (aN h₂ λf s₃ h₃=>aD h₃)
 | true=>
  refine ai (aN h₂ λf s₃ h₃=>?_)
  cases f <;> first | exact aD ⟨rfl,h₃⟩ | exact aD h₃
theorem FE{stmts env}(h:aA (model prog w) A (execs stmts env) (λf s'=>R (.ok f) s') (noted (model prog w) A env λe s'=>R (.error e) s') s):dF (model prog w) A (.block stmts env) R s:=by
 refine gJ rfl ?_
 show aA _ A (do return Fin.done (←(execs stmts env).onRaise (λx=>do noteFrame x env;theTreesLotGoes x))) _ _ s
 exact ai (xh (aN h λf s' h'=>aD h'))
theorem xr{body env}
  (h:aA (model prog w) (A.deeper env) (execs body env) (λf s'=>R (.ok (.ret (match f with | .ret v=>v | _=>.none))) s') (left (model prog w) (A.deeper env) env R) s):
  dF (model prog w) A (.func body env) R s:=by
 refine gJ rfl ?_
 show aA _ (A.deeper env) (do point;match ←(execs body env).onRaise (leaving env) with | .ret v=>ret v | _=>ret .none) _ _ s
 refine ai (Cj (ai (iL (lu h (λf s' h'=>?_) λz_ z_ h'=>h'))))
 cases f <;> exact aD h'
theorem jr{a:au}{args:Args}{o:Obj}{fd:eX}{body:List dO}(hroom:A.depth<recursionLimit)(ho:s.heap.get? a=some o)
  (hd':o.data= .func fd)(hco:fd.scope.isCoroutine=false)(hgen:fd.scope.isGenerator=false)(hbody:fd.body= .stmts body)(hcd:s.heap.CodeRec fd.code fd.qualname)
  (h:aA (model prog w) A.in1 (bindArgs fd args) (λbinds s₁=>
   aA (model prog w) A.in1 (newFunctionEnv fd.scope fd.globals fd.closure binds (fd.qualname++".<locals>.") (some a) fd.code none fd.builtins)
    (λenv s₂=>s₂.heap.NoLimit∧dF (model prog w) A (.func body env) R s₂) (λe s'=>R (.error e) s') s₁) (λe s'=>R (.error e) s') s):
  dF (model prog w) A (.call (.ref a) args) R s:=by
 refine gJ rfl ?_
 show aA _ A.in1 (callAny (.ref a) args) _ _ s
 simp only[callAny]
 refine ai (bS (wpAny_load ho ?_))
 refine E4_4 hcd λc oc vs tq hc hoc hdc hq=>?_
 simp only[hd',callFunction,hco,hgen,hbody,hc]
 rw[hc] at h
 refine ai (m:=field (.ref c) 1) (bS (wpAny_field hoc hdc hq ?_))
 refine ai (aD (ai (aN h λbinds s₁ h₁=>ai (aN h₁ λenv s₂ h₂=>ai (bS (wpAny_enterFrame h₂.1 hroom ?_))))))
 exact aD ⟨rfl,rfl,h₂.2⟩
end
section
variable{prog:cP}{w:cE}{A:bC}{E:af→ah→Prop}{s:ah}{K:Frag}{x C:au}{ox:Obj}{od:Option Obj}{name:Str}{expr:Bool}{Q:af→ah→Prop}
theorem Bb{g a:af}(X:K.In s.heap)(I:W.InstAt s.heap x ox C od)(hga:findIn K (.ref C) "__getattribute__"=some (some (.builtin "object.__getattribute__")))
  (hf:findObj K C od name=some (.bind g a))(hk:findIn K (.ref C) "__getattr__"=some none)
  (h:aA (model prog w) A.in1 (call g [a,.ref x,.ref C]) (λv s'=>aA (model prog w) A (handedOut v) Q E s') (λz_ z_=>False) {s with toks:=s.toks+1}):
  aA (model prog w) A (getAttr (.ref x) name expr) Q E s:=by
 obtain⟨hh,gg,d,t,os⟩:=s
 have L0:=I.type (M:=model prog w)
 have L1:=looks_findIn (M:=model prog w) X hga
 have L2:=looks_find (M:=model prog w) X I hf
 have L3:=looks_findIn (M:=model prog w) X hk
 unfold getAttr getAttrBy
 refine ai (bS (wpAny_mkText ?_))
 refine aM (ai (bS (L0.at ?_)))
 refine ai (bS (L1.at ?_))
 show aA _ _ (getAttrEveryday _ _ _) _ _ _
 refine ai (iL (tR rfl (ku rfl F.plainObj_entry_getattr_hooked ?_)))
 show aA _ A.in1 _ _ _ _
 unfold fU.«proto.getattr_hooked»
 refine ai (aD ?_)
 refine ai (bS (L0.at ?_))
 refine ai (bS (L2.at ?_))
 refine ai (bS (L3.at ?_))
 show aA _ _ (holding [a] (call g [a,.ref x,.ref C])>>=ret) _ _ _
 exact ai (aM (lu h (λv s' z=>aD z) λz_ z_ z=>z.elim))
theorem Bc{p fget:au}{rest:List af}{tp:af}{R:j6→ah→Prop}(X:K.In s.heap)(hp:recIn K p "property"=some (.ref fget::rest))
  (h:dF (model prog w) A (.call (.ref fget) ⟨[.ref x],[]⟩) R s):dF (model prog w) A (.call (.builtin "property.__get__") ⟨[.ref p,.ref x,tp],[]⟩) R s:=by
 refine E2_1 (rec_of X hp) λd sl ho=>?_
 obtain⟨hh,g,dr,t,os⟩:=s
 refine jO rfl KF.slot_prop.plain KF.entry_prop (bS (KF.slot_prop.check _ _ _ _ _ _ _ _ ⟨_,ho,rfl⟩ (KF.args_prop _ _ _) ?_))
 refine aN (bS (Q:=λfin s'=>fin= .again (.call (.ref fget) ⟨[.ref x],[]⟩)∧s'=⟨hh,g,dr,t,os⟩) ?_) ?_
 ·unfold fU.«property.__get__» descrGetArgs
  dsimp only at ho
  repeat lk
  exact⟨rfl,rfl⟩
 ·intro fin s' Lz
  refine A2 Lz λAf nV=>?_
  subst Af nV
  exact⟨rfl,rfl,h⟩
end
end
section
open Builtin Builtin.Bytes
noncomputable abbrev ie(b:List UInt8):Obj:={cls:=.type "bytearray",data:=.bytearray (cK b) 0}
theorem kF:Slot "bytearray" "append" "bytearray.append":=
 .of (owner:="bytearray") (n:="append") (by rw[typeLookup_type,builtinLookup_eq_fast];kernel_rfl) (by decide+kernel) (by decide+kernel) (by decide+kernel)
  (by first | exact .inl (by decide+kernel) | exact .inr (by decide+kernel)) (by rw[isSubtype_type];kernel_rfl)
theorem rH:entryFor table "bytearray.append"=some fU.«bytearray.append»:=entryFor_of_tree (by kernel_rfl)
theorem sN(a b:af):argsOk "bytearray.append" ⟨[a,b],[]⟩:=by unfold argsOk;kernel_rfl
theorem ry:Slot "bytearray" "__len__" "bytearray.__len__":=
 .of (owner:="bytearray") (n:="__len__") (by rw[typeLookup_type,builtinLookup_eq_fast];kernel_rfl) (by decide+kernel) (by decide+kernel) (by decide+kernel)
  (by first | exact .inl (by decide+kernel) | exact .inr (by decide+kernel)) (by rw[isSubtype_type];kernel_rfl)
theorem wH:entryFor table "bytearray.__len__"=some fU.«bytearray.__len__»:=entryFor_of_tree (by kernel_rfl)
theorem yh(a:af):argsOk "bytearray.__len__" ⟨[a],[]⟩:=by unfold argsOk;kernel_rfl
theorem l5:Slot "bytearray" "__getitem__" "bytearray.__getitem__":=
 .of (owner:="bytearray") (n:="__getitem__") (by rw[typeLookup_type,builtinLookup_eq_fast];kernel_rfl) (by decide+kernel) (by decide+kernel) (by decide+kernel)
  (by first | exact .inl (by decide+kernel) | exact .inr (by decide+kernel)) (by rw[isSubtype_type];kernel_rfl)
theorem uR:entryFor table "bytearray.__getitem__"=some fU.«bytearray.__getitem__»:=entryFor_of_tree (by kernel_rfl)
theorem wg(a b:af):argsOk "bytearray.__getitem__" ⟨[a,b],[]⟩:=by unfold argsOk;kernel_rfl
theorem xM:Slot "bytearray" "__init__" "bytearray.__init__":=
 .of (owner:="bytearray") (n:="__init__") (by rw[typeLookup_type,builtinLookup_eq_fast];kernel_rfl) (by decide+kernel) (by decide+kernel) (by decide+kernel)
  (by first | exact .inl (by decide+kernel) | exact .inr (by decide+kernel)) (by rw[isSubtype_type];kernel_rfl)
theorem n_:entryFor table "bytearray.__init__"=some fU.«bytearray.__init__»:=entryFor_of_tree (by kernel_rfl)
theorem uJ(a:af):argsOk "bytearray.__init__" ⟨[a],[]⟩:=by unfold argsOk;kernel_rfl
theorem uK(a b:af):argsOk "bytearray.__init__" ⟨[a,b],[]⟩:=by unfold argsOk;kernel_rfl
theorem Fv:mroOf (.type "bytearray")=pure [.type "bytearray",.type "object"]:=by rw[mroOf_type];kernel_rfl
theorem uV:typeLookup (.type "bytearray") "__new__"=pure (some (.builtin "bytearray.__new__")):=by rw[typeLookup_type,builtinLookup_eq_fast];kernel_rfl
theorem vg:TypeCalled "bytearray" "bytearray.__new__" "bytearray.__init__":=
 ⟨by decide+kernel,by decide+kernel,⟨_,_,Fv⟩,madeBy_type Fv uV (by decide+kernel),by decide+kernel,by rw[isSubtype_type];kernel_rfl,xM⟩
theorem xY:checkTypeCall "bytearray" ⟨[],[]⟩=pure ():=by kernel_rfl
theorem xZ(v:af):checkTypeCall "bytearray" ⟨[v],[]⟩=pure ():=by kernel_rfl
theorem zu:checkBuiltinCall "bytearray.__new__" ⟨[.type "bytearray"],[]⟩=pure ():=by kernel_rfl
theorem zv(v:af):checkBuiltinCall "bytearray.__new__" ⟨[.type "bytearray",v],[]⟩=pure ():=by kernel_rfl
theorem wI:entryFor table "bytearray.__new__"=some fU.«list.__new__»:=
 entryFor_alias (id':="list.__new__") (by rw[fastTable_eq_tree];kernel_rfl) (by first | rfl | decide+kernel) (by decide+kernel) (by rw[fastTable_eq_tree];kernel_rfl)
theorem qc:plainId "bytearray.__new__"=true:=by decide+kernel
theorem xw:("bytearray.__new__".splitOn ".__new__").headD ""="bytearray":=by first | decide+kernel | simp+decide [String.splitOn,String.splitOnAux]
theorem mY:isSubtype (.type "bytearray") (.type "bytearray")=pure true:=by rw[isSubtype_type];kernel_rfl
theorem tW:PlainAttrs "bytearray":=
 ⟨⟨"bytearray.__getattribute__",by rw[typeLookup_type,builtinLookup_eq_fast];kernel_rfl,by decide+kernel⟩,by rw[typeLookup_type,builtinLookup_eq_fast];kernel_rfl⟩
theorem uq:typeOf (.builtin "bytearray.append")=pure (.type "method_descriptor"):=by show builtinType _=_;rw[builtinType_eq_fast];kernel_rfl
theorem pY:typeLookup (.type "bytearray") "__release_buffer__"=pure (some (.builtin "bytearray.__release_buffer__")):=by rw[typeLookup_type,builtinLookup_eq_fast];kernel_rfl
theorem jn:typeLookup (.type "bytearray") "__buffer__"=pure (some (.builtin "bytearray.__buffer__")):=by rw[typeLookup_type,builtinLookup_eq_fast];kernel_rfl
theorem rL:typeLookup (.type "bytearray") "__bytes__"=pure none:=by rw[typeLookup_type,builtinLookup_eq_fast];kernel_rfl
theorem rM:typeLookup (.type "bytearray") "__index__"=pure none:=by rw[typeLookup_type,builtinLookup_eq_fast];kernel_rfl
theorem dI:typeLookup (.type "bytes") "__buffer__"=pure (some (.builtin "bytes.__buffer__")):=by rw[typeLookup_type,builtinLookup_eq_fast];kernel_rfl
theorem oX:typeLookup (.type "bytes") "__index__"=pure none:=by rw[typeLookup_type,builtinLookup_eq_fast];kernel_rfl
theorem mT:typeLookup (.type "bytes") "__release_buffer__"=pure none:=by rw[typeLookup_type,builtinLookup_eq_fast];kernel_rfl
theorem oY{M:g6}{A:bC}{E:af→ah→Prop}{s:ah}{self:af}{Q:Bool→ah→Prop}(h:Q false s):aA M A (exported self) Q E s:=by
 intro Γ p hΓ g
 have key:∀ (k:List (Code×Pos)→Bool),(∀ l,l.any (λc=>iY c.1)=false→k l=false)→Sem.wp M Γ (do return k (←stack):Sem Bool) (λa z_ s'=>Q a s') (λe z_ s'=>E e s') p s:=by
  intro k hk
  show Q (k ((Γ.code,p)::Γ.below)) s
  rw[hk]
  ·exact h
  ·unfold Good at g
   simp only[j0] at g ⊢
   exact g
 unfold exported
 refine key _ λl hl=>?_
 rw[List.any_eq_false] at hl ⊢
 intro c hc
 have hq:=hl c hc
 obtain⟨code,pos⟩:=c
 have hno:iY code=false:=by simpa using hq
 revert hno
 cases code with
 | builtin id args=>
  intro hno
  have hno:p7.contains id=false:=hno
  simp only[p7,List.contains_eq_mem,List.cons_append,nM,ay,decide_eq_false_iff_not,not_or] at hno
  refine A6 hno λh1 h2 h3 h4 h5 h6=>?_
  obtain⟨ps,kw⟩:=args
  have SK:decodersThatHold.contains id=false:=by
   rw[List.contains_eq_mem,decide_eq_false_iff_not];exact h6
  delta exported.match_1 exported._sparseCasesOn_1
  dsimp only
  rw[dif_neg h1,dif_neg h2,dif_neg h3,dif_neg h4,dif_neg h5]
  cases ps with
  | nil=>exact gp
  | cons v r=>
   show¬(Bytes.sameRef v self&&decodersThatHold.contains id)=true
   rw[SK,Bool.and_false];exact gp
 | _=>intro _;exact gp
end
section
set_option tactic.hygienic true
open Builtin Builtin.Bytes
section
variable{M:g6}{h:b9}{a:au}{b:List UInt8}
theorem oN(g:h.get? a=some (ie b)):cH M h (payload (.ref a)) b.toArray:=by
 unfold payload payload?
 exact((qp (part:=none) g).andThen .now).andThen .now
theorem oM(g:h.get? a=some (ie b)):cH M h (exportsOf (.ref a)) 0:=by
 unfold exportsOf
 exact(qp (part:=none) g).andThen .now
theorem lU{T:String}{o:Obj}(g:h.get? a=some o)(hc:o.cls= .type T){name:Str}{r:Option af}(e:typeLookup (.type T) name=pure r):cH M h (specialOf (.ref a) name) r:=by
 unfold specialOf
 refine((qp g).andThen .now:cH M h (typeOf (.ref a)) o.cls).andThen ?_
 rw[hc,e];exact .now
theorem vd{T U:String}{o:Obj}(g:h.get? a=some o)(hc:o.cls= .type T){r:Bool}(e:isSubtype (.type T) (.type U)=pure r):cH M h (isInstance (.ref a) (.type U)) r:=by
 unfold isInstance
 refine((qp g).andThen .now:cH M h (typeOf (.ref a)) o.cls).andThen ?_
 rw[hc,e];exact .now
theorem kZ(g:h.get? a=some (ie b)):cH M h (ownRelease (.ref a)) false:=by
 unfold ownRelease slotIsOwn
 refine((lU g rfl pY).andThen ?_:cH M h _ true).andThen .now
 have e1:(!("bytearray.__release_buffer__":String).endsWith ("."++"__release_buffer__"))=false:=by decide+kernel
 have e2:("bytearray.__release_buffer__":String).dropRight (("__release_buffer__":String).length+1)="bytearray":=by decide+kernel
 show cH M h (if(!("bytearray.__release_buffer__":String).endsWith ("."++"__release_buffer__"))=true then _ else _) true
 rw[e1,if_neg (by decide),e2]
 exact vd g rfl mY
end
section
variable{prog:cP}{w:cE}{A:bC}{E:af→ah→Prop}{s:ah}{a:au}{b:List UInt8}
theorem uY{Q:Unit→ah→Prop}(g:s.heap.get? a=some (ie b))(h:Q () s):aA (model prog w) A (checkResize (.ref a)) Q E s:=by
 unfold checkResize
 refine ai (m:=exported (.ref a) <||> (do return (←exportsOf (.ref a))>0:Sem Bool)) ?_
 unfold orM
 refine ai (oY ?_)
 show aA _ _ (do return decide ((←exportsOf (.ref a))>0):Sem Bool) _ _ _
 refine ai (fR (oM g) (aD ?_))
 exact aD h
theorem Fg{Q:af→ah→Prop}(g:s.heap.get? a=some (ie b))(hz:b.length≤1099511627776)(h:∀ tk tk',Q (.int b.length tk) {s with toks:=tk'}):wpAny (model prog w) A (call (.builtin "len") [.ref a]) Q E s:=by
 refine Calls.call_function_entry kind_len plain_len entry_len (args_len1 _) ?_
 unfold fU.«len»
 refine wpAny_bind (m:=oneArg "len" _) (wpAny_pure ?_)
 have hT:s.TypeIs (.ref a) "bytearray":=⟨_,g,rfl⟩
 refine wpAny_bind (m:=callSpecial? (.ref a) (d_ "__len__")) (wpAny_callSpecial?_slot (name:=d_ "__len__") hT ry
  (wpAny_call_entry ry hT wH ?_ (yh _)))
 show wpAny _ _ (do retInt (←payload (.ref a)).size) _ _ s
 refine wpAny_bind ((oN g).here ?_)
 refine wpAny_bind (wpAny_mkInt (wpAny_pure ⟨_,rfl,?_⟩))
 refine wpAny_bind (wpAny_holding (wpAny_pure ?_))
 refine wpAny_bind (wpAny_letGo ?_)
 show wpAny _ _ (if((b.toArray.size:Nat):Int)<0 then _ else _) _ _ _
 rw[if_neg (gr.mpr (cu _))]
 show wpAny _ _ (if((b.toArray.size:Nat):Int)≥2 ^ 63 then _ else _) _ _ _
 rw[if_neg (by simp only[aG];exact Int.not_le.mpr (fT.mpr (aY hz (by decide))))]
 refine wpAny_bind (wpAny_mkInt (wpAny_pure ⟨_,rfl,?_⟩))
 have:=h (s.toks+1) (s.toks+1+1)
 simpa using this
end
end
section
open Builtin Builtin.Bytes
section
variable{prog:cP}{w:cE}{A:bC}{E:af→ah→Prop}{s:ah}{a:au}{b b':List UInt8}
theorem xE{id:String}(h:p7.contains id=false)(args:Args):iY (.builtin id args)=false:=h
theorem sS{h:b9}{f:Array UInt8→Array UInt8}(g:h.get? a=some (ie b))(hf:f b.toArray=b'.toArray):(h.update a (oH f)).get? a=some (ie b'):=by
 have e:oH f (ie b)=ie b':=by show ie _=_;simp[oH,hf]
 rw[←e];exact dh _ g rfl
theorem pG{M:g6}{f:Array UInt8→Array UInt8}{Q:Unit→ah→Prop}(g:s.heap.get? a=some (ie b))(hf:f b.toArray=b'.toArray)(hz:b'.length≤sizeLine)
  (h:Q () {s with heap:=s.heap.update a (oH f)}):wpAny M A (write (.ref a) f) Q E s:=by
 show wpAny M A (updateBytearray a f) Q E s
 unfold updateBytearray
 refine wpAny_bind (wpAny_load g ?_)
 show wpAny _ _ (update a (oH f)>>=λz_=>lookBehind a) _ _ _
 refine wpAny_bind (wpAny_update g (wpAny_lookBehind (sS g hf) ?_ h))
 show(if b'.toArray.size>sizeLine then some "bytearray:memory" else none)=none
 rw[if_neg (by simp only[aG];exact gb hz)]
theorem zg{k:Int}{t:Tok}{Q:af→ah→Prop}(g:s.heap.get? a=some (ie b))(h0:0≤k)(h1:k<256)(hz:b.length+1≤sizeLine)
  (h:∀ h',h'.get? a=some (ie (b++[fX k.toNat]))→(∀ c o,c≠a→s.heap.get? c=some o→h'.get? c=some o)→Q .none {s with heap:=h'}):
  aA (model prog w) A (call (.builtin "bytearray.append") [.ref a,.int k t]) Q E s:=by
 have hT:s.TypeIs (.ref a) "bytearray":=⟨_,g,rfl⟩
 refine jo (jO (xE (by decide+kernel) _) kF.plain rH (bS (kF.check _ _ _ _ _ _ _ _ hT (sN _ _) ?_)))
 unfold fU.«bytearray.append»
 refine ai (m:=selfAndOne "bytearray.append" ⟨[.ref a,.int k t],[]⟩) (aD ?_)
 show aA _ _ (byteValue (.int k t)>>=λc=>checkResize (.ref a)>>=λz_=>write (.ref a) (·.push c)>>=λz_=>ret .none) _ _ _
 have hb:byteValue (.int k t)=pure k.toNat.toUInt8:=by
  unfold byteValue
  show(if(decide (k<0)||decide (k≥256))=true then _ else(pure k.toNat.toUInt8:Sem UInt8))=_
  rw[if_neg (by simp;exact⟨h0,h1⟩)]
 refine ai (n_eq hb (ai (uY g (ai (bS (pG (b':=b++[fX k.toNat]) g ?_ ?_ (aD ?_)))))))
 ·show b.toArray.push _=_
  simp
 ·simpa using hz
 ·exact h _ (sS g (by show b.toArray.push _=_;simp)) λc o hc e=>(cg _ _ hc.symm).trans e
theorem rq{T newId initId:String}{Bi:fU}{args:List af}{Q Q₁:af→ah→Prop}(ft:TypeCalled T newId initId)(hct:checkTypeCall T ⟨args,[]⟩=pure ())(entryI:entryFor table initId=some Bi)
  (hnz:∀ a,iY (.builtin initId a)=false)
  (hnew:codeAny (model prog w) A.in1 (.call (.builtin newId) ⟨.type T::args,[]⟩) (wants Q₁ λz_ z_=>False) s)
  (hnext:∀ obj s₁,Q₁ obj s₁→s₁.TypeIs obj T∧argsOk initId ⟨obj::args,[]⟩∧aA (model prog w) A.in1.in1 (Bi ⟨obj::args,[]⟩) (λfin s'=>fin= .done (.ret .none)∧Q obj s') (λz_ z_=>False) s₁):
  aA (model prog w) A (call (.type T) args) Q E s:=by
 refine E2_1 ft.mro λc tl nQ=>?_
 have hmade:=ft.made
 have hsub:=ft.sub
 refine jo (gJ rfl ?_)
 show aA _ _ (callAny (.type T) _) _ _ _
 refine aD ⟨rfl,sG _ (by decide+kernel),ku (by with_unfolding_all rfl) F.entry_type_call ?_⟩
 rw[Around.under_plain (weight_type_call_type T args []) (units_type_call_type T args [])]
 have h1:=ft.notType
 have h2:=ft.canCreate
 unfold fU.«type.__call__»
 dsimp only
 rw[h1]
 simp only[Bool.false_eq_true,if_false]
 refine gI (λh=>absurd (h2.symm.trans h) (by decide)) ?_
 refine ai (n_eq hct (ai (n_eq nQ ?_)))
 refine gI (λh=>gy h) ?_
 refine ai (n_eq hmade ?_)
 dsimp only
 refine ai (aD (ai (aM (jo (FG (codeAny_mono hnew λr s₁ hr=>?_))))))
 cases r with
 | error e=>exact hr.elim
 | ok fl=>
  cases fl with
  | ret obj=>
   refine A3 (hnext _ _ hr) λhT hok P4=>?_
   refine ai (bS (wpAny_isInstance hT hsub ?_))
   refine gI (λh=>gy h) ?_
   refine ai (aM ?_)
   unfold callSpecial?
   refine ai (bS (wpAny_specialOf hT ft.init.lookup ?_))
   dsimp only
   refine aM (ai (n_eq (ft.init.bind obj) ?_))
   refine ai (jo (jO (hnz _) ft.init.plain entryI (bS (ft.init.check _ _ _ _ _ _ _ _ hT hok ?_))))
   refine lu P4 ?_ (λz_ z_ h=>h.elim)
   intro fin s₂ Lz
   refine A2 Lz λAf hq=>?_
   subst Af
   refine aD (gI (λh=>gy h) (aD hq))
  | _=>exact hr.elim
end
end
section
open Builtin Builtin.Bytes
theorem Ed:bindOptional "bytearray.__init__" "bytearray" ["source","encoding","errors"] [] []=pure [none,none,none]:=by kernel_rfl
theorem Ef(v:af):bindOptional "bytearray.__init__" "bytearray" ["source","encoding","errors"] [v] []=pure [some v,none,none]:=by kernel_rfl
section
variable{prog:cP}{w:cE}{A:bC}{E:af→ah→Prop}{s:ah}{a:au}{b b':List UInt8}
theorem qY{args:List af}(hc:checkBuiltinCall "bytearray.__new__" ⟨.type "bytearray"::args,[]⟩=pure ()){Q₁:af→ah→Prop}
  (h:Q₁ (.ref s.heap.objs.size) {s with heap:=s.heap.push (ie [])}):codeAny (model prog w) A (.call (.builtin "bytearray.__new__") ⟨.type "bytearray"::args,[]⟩) (wants Q₁ E) s:=by
 refine codeAny_of_tree ?_
 show wpAny _ A.in1 (do checkBuiltinCall "bytearray.__new__" ⟨.type "bytearray"::args,[]⟩;again (.builtin "bytearray.__new__" ⟨.type "bytearray"::args,[]⟩)) _ _ s
 refine wpAny_bind (wpAny_of_eq hc (wpAny_pure ⟨plainId_quiet qc _,codeAny_builtin_stack wI rfl λp st=>?_⟩))
 rw[Around.under_plainId qc _]
 have hsub:=mY
 have hown:=xw
 obtain⟨hp,g,d,tk,os⟩:=s
 simp only[hown]
 wp_walk
 exact h
theorem pI{M:g6}{h:b9}{id:String}{full:Bool}{t:Tok}:cH M h (buffer? id (.bytes b.toArray t) full) (some b.toArray):=by
 have special:∀ {name:Str}{r:Option af},typeLookup (.type "bytes") name=pure r→cH M h (specialOf (.bytes b.toArray t) name) r:=λ{name r} e=>by
  show cH M h (typeOf (.bytes b.toArray t)>>=_) r
  refine Looks.now.andThen ?_
  rw[e];exact .now
 have rel:cH M h (ownRelease (.bytes b.toArray t)) false:=by
  unfold ownRelease slotIsOwn
  exact((special mT).andThen .now:cH M h _ true).andThen .now
 have own:cH M h (slotIsOwn (.bytes b.toArray t) "__buffer__") true:=by
  unfold slotIsOwn
  refine(special dI).andThen ?_
  have e1:(!("bytes.__buffer__":String).endsWith ("."++"__buffer__"))=false:=by decide+kernel
  have e2:("bytes.__buffer__":String).dropRight (("__buffer__":String).length+1)="bytes":=by decide+kernel
  show cH M h (if(!("bytes.__buffer__":String).endsWith ("."++"__buffer__"))=true then _ else _) true
  rw[e1,if_neg (by decide),e2]
  show cH M h (typeOf (.bytes b.toArray t)>>=_) true
  refine Looks.now.andThen ?_
  show cH M h (isSubtype (.type "bytes") (.type "bytes")) true
  rw[PySem.F.bm_sub];exact .now
 unfold buffer?
 refine(special dI).andThen ?_
 try dsimp only
 refine own.andThen ?_
 refine(special dI).andThen ?_
 try dsimp only
 refine rel.andThen ?_
 exact(Looks.now:cH M h (payload (.bytes b.toArray t)) b.toArray).andThen .now
theorem CT{M:g6}{h:b9}{id:String}{full:Bool}(g:h.get? a=some (ie b)):cH M h (buffer? id (.ref a) full) (some b.toArray):=by
 have own:cH M h (slotIsOwn (.ref a) "__buffer__") true:=by
  unfold slotIsOwn
  refine(lU g rfl jn).andThen ?_
  have e1:(!("bytearray.__buffer__":String).endsWith ("."++"__buffer__"))=false:=by decide+kernel
  have e2:("bytearray.__buffer__":String).dropRight (("__buffer__":String).length+1)="bytearray":=by decide+kernel
  show cH M h (if(!("bytearray.__buffer__":String).endsWith ("."++"__buffer__"))=true then _ else _) true
  rw[e1,if_neg (by decide),e2]
  exact vd g rfl mY
 unfold buffer?
 refine(lU g rfl jn).andThen ?_
 try dsimp only
 refine own.andThen ?_
 refine(lU g rfl jn).andThen ?_
 try dsimp only
 refine(kZ g).andThen ?_
 exact(oN g).andThen .now
theorem A0{Q:Fin→ah→Prop}(g:s.heap.get? a=some (ie []))
  (h:∀ h',h'.get? a=some (ie [])→(∀ c o,c≠a→s.heap.get? c=some o→h'.get? c=some o)→Q (.done (.ret .none)) {s with heap:=h'}):
  aA (model prog w) A («bytearray.__init__» ⟨[.ref a],[]⟩) Q E s:=by
 unfold «bytearray.__init__»
 refine ai (fR (kZ g) ?_)
 try dsimp only
 refine gI (λh=>gy h) ?_
 refine ai (n_eq Ed ?_)
 try dsimp only
 refine ai (m:=checkCodecArg _ _ _ none) (aD ?_)
 refine ai (m:=checkCodecArg _ _ _ none) (aD ?_)
 refine ai (m:=exported (.ref a) <||> (do return (←exportsOf (.ref a))>0:Sem Bool)) ?_
 unfold orM
 refine ai (oY ?_)
 show aA _ _ (do return decide ((←exportsOf (.ref a))>0):Sem Bool) _ _ _
 refine ai (fR (oM g) (aD ?_))
 refine gI (λh=>gy h) ?_
 refine ai (bS (pG (b':=[]) g rfl (d7 _) ?_))
 refine aD (h _ (sS (b':=[]) g rfl) λc o hc e=>(cg _ _ hc.symm).trans e)
theorem A1{t:Tok}{Q:Fin→ah→Prop}(g:s.heap.get? a=some (ie []))(hz:b.length≤sizeLine)
  (h:∀ h',h'.get? a=some (ie b)→(∀ c o,c≠a→s.heap.get? c=some o→h'.get? c=some o)→Q (.done (.ret .none)) {s with heap:=h'}):
  aA (model prog w) A («bytearray.__init__» ⟨[.ref a,.bytes b.toArray t],[]⟩) Q E s:=by
 unfold «bytearray.__init__»
 refine ai (fR (kZ g) ?_)
 try dsimp only
 refine gI (λh=>gy h) ?_
 refine ai (n_eq (Ef _) ?_)
 try dsimp only
 refine ai (m:=checkCodecArg _ _ _ none) (aD ?_)
 refine ai (m:=checkCodecArg _ _ _ none) (aD ?_)
 refine ai (m:=exported (.ref a) <||> (do return (←exportsOf (.ref a))>0:Sem Bool)) ?_
 unfold orM
 refine ai (oY ?_)
 show aA _ _ (do return decide ((←exportsOf (.ref a))>0):Sem Bool) _ _ _
 refine ai (fR (oM g) (aD ?_))
 refine gI (λh=>gy h) ?_
 refine ai (bS (pG (b':=[]) g rfl (d7 _) ?_))
 have g':=sS (f:=λz_=> #[]) (b':=[]) g rfl
 refine ai (m:=asStr? (.bytes b.toArray t)) (aD ?_)
 refine gI (λh=>gy h) ?_
 refine ai ?_
 refine gI (λh=>gy h) (gI (λh=>gy h) (aD ?_))
 refine ai (bS (wpAny_specialOf (typeIs_bytes _ _ _) oX ?_))
 refine gI (λh=>gy h) ?_
 refine ai (fR pI ?_)
 try dsimp only
 refine ai (tQ (ai (bS (pG (b':=b) g' rfl hz ?_))))
 have g2:=sS (f:=λz_=>b.toArray) (b':=b) g' rfl
 exact ai (aD (aD (h _ g2 λc o hc e=>(cg _ _ hc.symm).trans ((cg _ _ hc.symm).trans e))))
theorem A9{Q:af→ah→Prop}(h:∀ h',h'.get? s.heap.objs.size=some (ie [])→(∀ c o,s.heap.get? c=some o→h'.get? c=some o)→Q (.ref s.heap.objs.size) {s with heap:=h'}):
  aA (model prog w) A (call (.type "bytearray") []) Q E s:=by
 refine rq (Q₁:=λv s₁=>v= .ref s.heap.objs.size∧s₁={s with heap:=s.heap.push (ie [])}) vg xY n_ (λa=>xE (by decide+kernel) a) (qY zu ⟨rfl,rfl⟩) ?_
 rintro obj s₁ ⟨rfl,rfl⟩
 have g:(s.heap.push (ie [])).get? s.heap.objs.size=some (ie []):=aL _ rfl
 refine⟨⟨_,g,rfl⟩,uJ _,A0 (s:={s with heap:=s.heap.push (ie [])}) g λh' g' k=>⟨rfl,h h' g' λc o e=>k c o (fy (bB e)) (aq _ e)⟩⟩
theorem A_{t:Tok}{Q:af→ah→Prop}(hz:b.length≤sizeLine)(h:∀ h',h'.get? s.heap.objs.size=some (ie b)→(∀ c o,s.heap.get? c=some o→h'.get? c=some o)→Q (.ref s.heap.objs.size) {s with heap:=h'}):
  aA (model prog w) A (call (.type "bytearray") [.bytes b.toArray t]) Q E s:=by
 refine rq (Q₁:=λv s₁=>v= .ref s.heap.objs.size∧s₁={s with heap:=s.heap.push (ie [])}) vg (xZ _) n_ (λa=>xE (by decide+kernel) a) (qY (zv _) ⟨rfl,rfl⟩) ?_
 rintro obj s₁ ⟨rfl,rfl⟩
 have g:(s.heap.push (ie [])).get? s.heap.objs.size=some (ie []):=aL _ rfl
 refine⟨⟨_,g,rfl⟩,uK _ _,A1 (s:={s with heap:=s.heap.push (ie [])}) g hz λh' g' k=>⟨rfl,h h' g' λc o e=>k c o (fy (bB e)) (aq _ e)⟩⟩
theorem kP{α:Type}{M:g6}{c:Bool}{x y:Sem α}{Q:α→ah→Prop}(hc:c=false)(h:wpAny M A y Q E s):wpAny M A (if c=true then x else y) Q E s:=by subst hc;exact h
theorem sR{α:Type}{M:g6}{c:Bool}{x y:Sem α}{Q:α→ah→Prop}(hc:c=true)(h:wpAny M A x Q E s):wpAny M A (if c=true then x else y) Q E s:=by subst hc;exact h
theorem uO{Q₁:af→ah→Prop}(g:s.heap.get? a=some (ie b))(hz:b.length≤sizeLine)(h:∀ t k,Q₁ (.bytes b.toArray t) {s with toks:=k}):
  codeAny (model prog w) A (.call (.builtin "bytes.__new__") ⟨[.type "bytes",.ref a],[]⟩) (wants Q₁ E) s:=by
 refine codeAny_of_tree ?_
 show wpAny _ A.in1 (do checkBuiltinCall "bytes.__new__" ⟨[.type "bytes",.ref a],[]⟩;again (.builtin "bytes.__new__" ⟨[.type "bytes",.ref a],[]⟩)) _ _ s
 refine wpAny_bind (wpAny_of_eq (PySem.F.bm_newCall _) (wpAny_pure ⟨plainId_quiet PySem.F.bm_plain _,codeAny_builtin PySem.F.bm_entry ?_⟩))
 rw[Around.under_plainId PySem.F.bm_plain _]
 have hT:s.TypeIs (.ref a) "bytearray":=⟨_,g,rfl⟩
 unfold fU.«bytes.__new__»
 refine wpAny_bind (wpAny_of_eq (a:=true) rfl ?_)
 refine kP rfl ?_
 refine wpAny_bind (wpAny_of_eq PySem.F.bm_sub ?_)
 refine kP rfl ?_
 refine wpAny_bind (wpAny_of_eq (PySem.F.bm_bind _) ?_)
 refine wpAny_bind (wpAny_of_eq (a:=()) rfl ?_)
 refine wpAny_bind (wpAny_of_eq (a:=()) rfl ?_)
 refine kP rfl ?_
 refine wpAny_bind (wpAny_specialOf hT rL ?_)
 refine wpAny_bind (wpAny_bind ?_)
 show wpAny _ _ (load a>>=_) _ _ _
 refine wpAny_bind (wpAny_load g ?_)
 refine wpAny_pure (wpAny_pure ?_)
 refine kP rfl ?_
 refine wpAny_bind (wpAny_specialOf hT rM ?_)
 refine sR rfl ?_
 first
  | show wpAny _ _ (Builtin.Bytes.buffer? "bytes.__new__" (.ref a) true>>=_) _ _ _
  | (refine wpAny_bind ?_;show wpAny _ _ (Builtin.Bytes.buffer? "bytes.__new__" (.ref a) true>>=_) _ _ _)
 refine wpAny_bind ((CT g).here ?_)
 refine wpAny_bind (wpAny_rule ?_)
 refine wpAny_bind (wpAny_mkBytes ?_ (by simpa using hz))
 show wpAny _ _ (if(Value.type "bytes" == Value.type "bytes")=true then _ else _) _ _ _
 refine sR (by decide) ?_
 first
  | exact wpAny_pure (h _ _)
  | exact wpAny_bind (wpAny_pure (wpAny_pure (h _ _)))
theorem n9{Q:af→ah→Prop}(g:s.heap.get? a=some (ie b))(hz:b.length≤sizeLine)(h:∀ t k,Q (.bytes b.toArray t) {s with toks:=k}):wpAny (model prog w) A (call (.type "bytes") [.ref a]) Q E s:=by
 refine callType_codes (Q₁:=λobj s₁=>s₁.TypeIs obj "bytes"∧Q obj s₁) PySem.F.bm_called (PySem.F.bm_typeCall _) PySem.F.entry_object_init
  (uO g hz λt k=>⟨PySem.W.typeIs_bytes _ _ _,h t k⟩) λobj s₁ h₁=>?_
 exact⟨h₁.1,PySem.F.args_object_init_2 obj _,object_init_meets PySem.F.bm_called.init.lookup PySem.F.bm_called.made (by decide) prog w A.in1 _ s₁ ⟨h₁.1,rfl,h₁.2⟩⟩
theorem zQ{M:g6}{sl:au}{l u:af}{lo hi:Option Int}{Q:af×af×af→ah→Prop}(hl:IsPart l lo)(hu:IsPart u hi)(hs:s.heap.IsSliceOf sl l u .none)
  (h:Q (rawPart lo,rawPart hi,rawPart none) s):wpAny M A (Bytes.sliceParts (.ref sl)) Q E s:=by
 refine fO λzz=>?_
 obtain⟨o,ho,hc,hd⟩:=hs
 refine zz ?_
 unfold Bytes.sliceParts
 refine wpAny_bind (wpAny_field (x:=.none) ho hd rfl ?_)
 kby_none
 refine wpAny_ite (KBy.ite_no (show¬((dH == rawInt 0)=true) from gp) ?_)
 refine wpAny_bind (wpAny_field (x:=l) ho hd rfl ?_)
 cases hl <;> cases hu <;> (first
  | (kby_none;(refine wpAny_bind (wpAny_field (x:=.none) ho hd rfl ?_));kby_none)
  | (kby_none;(refine wpAny_bind (wpAny_field (x:=.int _ _) ho hd rfl ?_));kby_int)
  | (kby_int;(refine wpAny_bind (wpAny_field (x:=.none) ho hd rfl ?_));kby_none)
  | (kby_int;(refine wpAny_bind (wpAny_field (x:=.int _ _) ho hd rfl ?_));kby_int)) <;> exact wpAny_pure h
theorem HG{sl:au}{l u:af}{lo hi:Option Int}{Q:af→ah→Prop}(g:s.heap.get? a=some (ie b))(hl:IsPart l lo)(hu:IsPart u hi)(hs:s.heap.IsSliceOf sl l u .none)(hz:b.length≤sizeLine)
  (h:Q (.ref s.heap.objs.size) {s with heap:=s.heap.push {cls:=.type "bytearray",data:=.bytearray (KBy.picked b.toArray lo hi)}}):wpAny (model prog w) A (getItem (.ref a) (.ref sl)) Q E s:=by
 have hT:s.TypeIs (.ref a) "bytearray":=⟨_,g,rfl⟩
 have hT2:s.TypeIs (.ref sl) "slice":=hs.elim λo ho=>⟨o,ho.1,ho.2.1⟩
 refine wpAny_getItem_slot hT (by decide) l5 (wpAny_call_entry l5 hT uR ?_ (wg _ _))
 unfold fU.«bytearray.__getitem__»
 refine wpAny_bind (m:=slotArgs "__getitem__" 1 _) (wpAny_pure ?_)
 show wpAny _ _ (Bytes.subscript? (.ref sl)>>=λr=>_) _ _ s
 refine wpAny_bind ?_
 unfold Bytes.subscript?
 refine wpAny_bind (wpAny_specialOf hT2 slice_no_index (wpAny_pure ?_))
 refine wpAny_bind (wpAny_typeOf hT2 ?_)
 show wpAny _ _ (Bytes.sliceParts (.ref sl)>>=λr=>_) _ _ s
 refine wpAny_bind (zQ hl hu hs ?_)
 dsimp only
 refine wpAny_bind ((oN g).here ?_)
 refine wpAny_bind (wpAny_of_eq (sliceIndices_raw lo hi none b.toArray.size (λe=>bR e)) ?_)
 have hp:(KBy.picked b.toArray lo hi).size≤sizeLine:=aa (KBc.size_picked_le b.toArray lo hi) (by simpa using hz)
 refine wpAny_bind ?_
 unfold Bytes.newBytearray
 exact wpAny_newObj_type (wpAny_pure ⟨_,rfl,h⟩) hp
end
end
section
open Builtin Builtin.Bytes
theorem tK{β:Type}{M:g6}{h:b9}{f:Nat→β→Sem (ForInStep β)}(I:Nat→β→Prop)(N:Nat)(step:∀ i b,i<N→I i b→∃ b',cH M h (f i b) (.yield b')∧I (i+1) b'):
  ∀ (k i:Nat) (b:β),i+k=N→I i b→∃ b',cH M h (forIn (List.range' i k) b f) b'∧I N b'
 | 0,i,b,e,hI=>⟨b,by rw[List.range'_zero,List.forIn_nil];exact .now,by rw[←e];exact hI⟩
 | k+1,i,b,e,hI=>by
  refine E1_2 (step i b (e▸Nat.lt_add_of_pos_right (jJ k)) hI) λb1 L1 h1=>?_
  refine E1_2 (tK I N step k (i+1) b1 ((cY i k).trans e) h1) λb2 L2 h2=>?_
  refine⟨b2,?_,h2⟩
  rw[List.range'_succ,List.forIn_cons]
  exact L1.andThen L2
theorem Aw{M:g6}{h:b9}{id:String}{b:List UInt8}{t:Tok}:cH M h (takeBufferQuiet? id (.bytes b.toArray t) 0) (some (b.toArray,none)):=by
 have special:∀ {name:Str}{r:Option af},typeLookup (.type "bytes") name=pure r→cH M h (specialOf (.bytes b.toArray t) name) r:=λ{name r} e=>by
  show cH M h (typeOf (.bytes b.toArray t)>>=_) r
  refine Looks.now.andThen ?_
  rw[e];exact .now
 have own:cH M h (slotIsOwn (.bytes b.toArray t) "__buffer__") true:=by
  unfold slotIsOwn
  refine(special dI).andThen ?_
  have e1:(!("bytes.__buffer__":String).endsWith ("."++"__buffer__"))=false:=by decide+kernel
  have e2:("bytes.__buffer__":String).dropRight (("__buffer__":String).length+1)="bytes":=by decide+kernel
  show cH M h (if(!("bytes.__buffer__":String).endsWith ("."++"__buffer__"))=true then _ else _) true
  rw[e1,if_neg (by decide),e2]
  show cH M h (typeOf (.bytes b.toArray t)>>=_) true
  refine Looks.now.andThen ?_
  show cH M h (isSubtype (.type "bytes") (.type "bytes")) true
  rw[PySem.F.bm_sub];exact .now
 have take:cH M h (takeBuffer? id (.bytes b.toArray t) 0) (some (b.toArray,none)):=by
  unfold takeBuffer?
  refine(special dI).andThen ?_
  try dsimp only
  refine own.andThen ?_
  try dsimp only
  refine(special dI).andThen ?_
  try dsimp only
  exact(pI (full:=(0:Int) == fullReadOnly)).andThen .now
 unfold takeBufferQuiet?
 intro A Q E s k q
 refine wpAny_bind (wpAny_attempt ?_)
 exact take A _ _ s k (wpAny_pure q)
inductive gq:List af→List (List UInt8)→Prop
 | nil:gq [] []
 | cons {b t vs bs}:gq vs bs→gq (.bytes (cK b) t::vs) (b::bs)
theorem gq.length:∀ {vs bs},gq vs bs→vs.length=bs.length:=by
 intro vs bs z
 induction z with
 | nil=>rfl
 | cons _ ih=>exact congrArg (·+1) ih
theorem gq.get:∀ {vs bs},gq vs bs→∀ {i:Nat},i<vs.length→∃ b t,vs[i]? =some (.bytes (cK b) t)∧bs[i]? =some b
:=by
 intro vs bs z
 induction z with
 | nil=>intro i h;exact absurd h (Nat.not_lt_zero _)
 | cons r ih=>
  intro i h
  cases i with
  | zero=>exact⟨_,_,rfl,rfl⟩
  | succ i=>exact ih (iP h)
theorem tH:∀ (bs:List (List UInt8)),joined #[] (bs.map cK)=bs.flatten.toArray:=by
 intro bs
 unfold joined
 have key:∀ (l:List (List UInt8)) (k:Nat) (acc:List UInt8),((l.map cK).zipIdx k).foldl (λ(out:Array UInt8) (x:Array UInt8×Nat)=>(if x.2>0 then out++ #[] else out)++x.1) acc.toArray=(acc++l.flatten).toArray:=by
  intro l
  induction l with
  | nil=>intro k acc;simp
  | cons a r ih=>
   intro k acc
   rw[cG,List.zipIdx_cons,List.foldl_cons]
   have:((if k>0 then acc.toArray++ #[] else acc.toArray)++a.toArray)=(acc++a).toArray:=by split <;> simp
   dsimp only
   rw[this,ih]
   simp
 have:=key bs 0 []
 simpa using this
theorem DJ(bs:List (List UInt8)):∀ k:Nat,(bs.map cK).foldl (λx (y:Array UInt8)=>x+y.size) k=k+bs.flatten.length:=by
 induction bs with
 | nil=>intro k;simp
 | cons a r ih=>intro k;rw[cG,List.foldl_cons,ih];simp;exact j3 _ _ _
theorem mh{prog:cP}{w:cE}{A:bC}{E:af→ah→Prop}{keep:List af}:∀ (taken:List (af×Option af)) {s:ah}{Q:Unit→ah→Prop},(∀ p ∈ taken,p.2=none)→Q () s→wpAny (model prog w) A (joinLetGo taken keep) Q E s
 | [],s,Q,_,h=>wpAny_pure h
 | (x,w')::rest,s,Q,hn,h=>by
  have e:w'=none:=hn (x,w') (.head _)
  subst e
  unfold joinLetGo
  dsimp only
  refine wpAny_bind (wpAny_letGo ?_)
  exact mh rest (λp hp=>hn p (.tail _ hp)) h
theorem Tg{α:Type}:∀ {l:List af}{f:af→α}{g:Array af→α},l.length≠1→joinM.match_1 (λz_=>α) l.toArray f g=g l.toArray
| [],f,g,h=>rfl
| [a],f,g,h=>absurd rfl h
| a::b::r,f,g,h=>by
 unfold joinM.match_1
 exact dif_neg (by simp)
theorem gq.Ph:∀ {vs bs},gq vs bs→∀ i:Nat,((vs.take i).map λx=>((x,none):af×Option af)).any (λx=>x.1.onHeap)=false
:=by
 intro vs bs z
 induction z with
 | nil=>intro i;cases i <;> rfl
 | cons r ih=>intro i;cases i with
  | zero=>rfl
  | succ i=>rw[List.take_succ_cons,cG,j0,ih i];rfl
section
variable{prog:cP}{w:cE}{A:bC}{E:af→ah→Prop}{s:ah}
theorem Q0{α:Type}{M:g6}{c:Prop}[Decidable c]{x y:Sem α}{Q:α→ah→Prop}(hc:c)(h:wpAny M A x Q E s):wpAny M A (if c then x else y) Q E s:=by rw[if_pos hc];exact h
theorem Ub{α:Type}{M:g6}{c:Prop}[Decidable c]{x y:Sem α}{Q:α→ah→Prop}(hc:¬c)(h:wpAny M A y Q E s):wpAny M A (if c then x else y) Q E s:=by rw[if_neg hc];exact h
theorem RB{α:Type}{M:g6}{H:b9}{c:Prop}[Decidable c]{x y:Sem α}{v:α}(hc:¬c)(h:cH M H y v):cH M H (if c then x else y) v:=by rw[if_neg hc];exact h
theorem w_eq{α:Type}{M:g6}{x y:Sem α}{Q:α→ah→Prop}(e:x=y)(h:wpAny M A y Q E s):wpAny M A x Q E s:=e▸h
theorem join_loop{its:List af}{bs:List (List UInt8)}(hb:gq its bs){Q:PySem.Fin→ah→Prop}{f:Nat→Array (Array UInt8)×List (af×Option af)→Sem (ForInStep (Array (Array UInt8)×List (af×Option af)))}{k:Array (Array UInt8)×List (af×Option af)→Sem PySem.Fin}
  (h1:∀ i x tx ts,ts.any (λx:af×Option af=>x.1.onHeap)=false→its.toArray.getD i dH= .bytes x tx→∀ ps,cH (model prog w) s.heap (f i (ps,ts)) (.yield (ps.push x,ts++[(its.toArray.getD i dH,none)])))
  (h2:wpAny (model prog w) A (k ((bs.map cK).toArray,its.map λx=>(x,none))) Q E s):wpAny (model prog w) A (forIn [:its.toArray.size] (#[],[]) f>>=k) Q E s:=by
 rw[Std.Legacy.Range.forIn_eq_forIn_range',show Std.Legacy.Range.size [:its.toArray.size]=its.length by simp[Std.Legacy.Range.size]]
 refine E1_3 (tK (M:=model prog w) (h:=s.heap) (f:=f) (λi (b:Array (Array UInt8)×List (af×Option af))=>b.1=((bs.take i).map cK).toArray∧b.2=(its.take i).map λx=>(x,none)) its.length (λi b hi hI=>?_) its.length 0 (#[],[]) (eG _) ⟨by simp,by simp⟩) λb' L e1 e2=>?_
 ·refine E2_2 (hb.get hi) λx tx hx SQ=>?_
  have hx':its.toArray.getD i dH= .bytes x.toArray tx:=by simp[Array.getD,hi];exact(bW.mp hx).2
  refine⟨_,h1 i x.toArray tx b.2 (by rw[hI.2];exact hb.Ph i) hx' b.1,?_,?_⟩
  ·rw[hI.1,fJ,SQ];simp
  ·rw[hI.2,hx',fJ,hx];simp
 ·refine wpAny_bind (L.here ?_)
  have e3:b'=((bs.map cK).toArray,its.map λx=>(x,none)):=Prod.ext (by rw[e1,hb.length,e_]) (by rw[e2,e_])
  rw[e3];exact h2
set_option tactic.hygienic true in
theorem C3{l:au}{its:List af}{m:Nat}{bs:List (List UInt8)}{t:Tok}{Q:Fin→ah→Prop}(g:s.heap.get? l=some {cls:=.type "list",data:=.seq its.toArray m})(hb:gq its bs)(hz:bs.flatten.length≤sizeLine)
  (h:∀ t k,Q (.done (.ret (.bytes bs.flatten.toArray t))) {s with toks:=k}):wpAny (model prog w) A (joinM .bytes ⟨[.bytes #[] t,.ref l],[]⟩) Q E s:=by
 have hT:cH (model prog w) s.heap (typeOf (.ref l)) (.type "list"):=(qp g).andThen .now
 have seq:cH (model prog w) s.heap (seqItems? (.ref l)) (some its.toArray):=by
  unfold seqItems?
  exact(qp (part:=none) g).andThen .now
 unfold joinM
 refine wpAny_bind (m:=selfAndOne _ _) (wpAny_pure ?_)
 dsimp only
 refine Q0 (by decide) ?_
 refine wpAny_bind (wpAny_bind (hT.here ?_))
 refine Q0 (by decide) ?_
 refine wpAny_pure ?_
 refine wpAny_bind (seq.here ?_)
 dsimp only
 refine Q0 (by decide) ?_
 by_cases one:its.length=1
 ·refine E1_1 (List.length_eq_one_iff.mp one) λx e=>?_
  subst e
  cases hb with
  | cons hb'=>
  rename_i b t' bs
  cases hb'
  refine wpAny_bind (m:=rule "bytes.join.one-item") (wpAny_rule ?_)
  have:=h t' s.toks
  simp only[lE,List.flatten_nil,dw] at this
  exact wpAny_pure this
 ·refine w_eq (Tg one) ?_
  refine join_loop hb (λi x tx ts hc hx' ps=>?_) ?_
  ·refine seq.andThen (RB (by show¬(false||_)=true;rw[hc];decide) (Looks.andThen (λA Q E s k q=>wpAny_holding (hx'.symm▸Aw A Q E s k q)) (seq.andThen (RB (by simp) Looks.now))))
  ·have hsum:Array.foldl (λx1 (x2:Array UInt8)=>x1+x2.size) ((#[]:Array UInt8).size*((bs.map cK).toArray.size-1)) (bs.map cK).toArray=bs.flatten.length:=by
    rw[List.foldl_toArray,show(#[]:Array UInt8).size*((bs.map cK).toArray.size-1)=0 by simp,DJ]
    exact eG _
   refine wpAny_bind (wpAny_pure (Ub (by rw[hsum];unfold tooLong;rw[decide_eq_true_eq];exact kI.mpr hz) ?_))
   refine wpAny_bind (m:=mkBytes _) (wpAny_mkBytes ?_ (by show(joined #[] (bs.map cK)).size≤_;rw[tH];simpa using hz))
   refine wpAny_bind (wpAny_holding (wpAny_point (wpAny_bind (mh _ (by simp) (wpAny_pure ?_)))))
   have:=h s.toks (s.toks+1)
   rw[←tH] at this
   exact this
end
end
section
open Builtin Builtin.ObjectAttr
noncomputable abbrev OE:List af:=[.type "Exception",.type "BaseException",.type "object"]
noncomputable abbrev wL:List af:=[.ref 52,.ref 39,.type "Exception",.type "BaseException",.type "object"]
structure D5(K:Frag):Prop where
 cls:∃ cd,clsIn K 52=some cd∧cd.mro=wL
 dict:hasDictIn K 52=true
 ga:findIn K (.ref 52) "__getattribute__"=some (some (.builtin "BaseException.__getattribute__"))
 gt:findIn K (.ref 52) "__getattr__"=some none
 told:findIn K (.ref 52) "told"=some none
section
variable{prog:cP}{w:cE}{A:bC}{E:af→ah→Prop}{K:Frag}{e:au}{oe:Obj}{h:b9}{g:Array GenState}{d:Drawn}{t:Nat}{os:cT}{od:Option Obj}
theorem Hl{name:Str}{expr:Bool}{v:af}{Q:af→ah→Prop}(X:K.In h)(I:W.InstAt h e oe 52 od)(hk:∃ cd,clsIn K 52=some cd∧cd.mro=wL)
  (hga:findIn K (.ref 52) "__getattribute__"=some (some (.builtin "BaseException.__getattribute__")))(hgt:findIn K (.ref 52) "__getattr__"=some none)
  (hf:findObj K 52 od name=some (.value v))(hh:handedIn v=true)(hQ:Q v ⟨h,g,d,t+1,os⟩):wpAny (model prog w) A (getAttr (.ref e) name expr) Q E ⟨h,g,d,t,os⟩:=by
 have L0:=I.type (M:=model prog w)
 have L1:=looks_findIn (M:=model prog w) X hga
 have L2:=looks_find (M:=model prog w) X I hf
 have L3:=looks_findIn (M:=model prog w) X hgt
 refine E1_2 hk λcd hcl nQ=>?_
 unfold getAttr getAttrBy
 refine wpAny_bind (wpAny_mkText (wpAny_holding (wpAny_bind (L0.at (wpAny_bind (L1.at ?_))))))
 dsimp only
 refine wpAny_ite ?_
 rw[if_neg (by decide+kernel)]
 unfold getAttrByItsOwn hookBefore
 refine wpAny_bind (wpAny_ite ?_)
 rw[if_pos (by rfl)]
 refine L3.at ?_
 refine wpAny_bind (wpAny_attempt (wpAny_holding ?_))
 unfold callGetattribute
 refine wpAny_ite ?_
 rw[if_neg (by cases expr <;> simp[onTheHeap])]
 have FA:=PySem.F.attr_Exception
 have ne:cd.mro.isEmpty=false:=by rw[nQ];rfl
 have sub:cH (model prog w) h (isInstance (.ref e) (.type "BaseException")) true:=I.type.andThen (looks_mroIn X (by unfold mroIn;rw[hcl,Option.bind_some,if_neg (by rw[ne];decide),nQ];rfl))
 unfold boundAndCalled
 rw[FA.ga.bind]
 refine wpAny_bind (wpAny_pure (wpAny_call ?_))
 refine codeAny_call_builtin FA.ga.plain PySem.F.entry_bexc_ga (@check_slot (model prog w) _ _ ⟨h,g,d,t+1,os⟩ "BaseException.__getattribute__" "BaseException" "__getattribute__" (.ref e) [.str name t] [] _ (by decide+kernel) (by decide+kernel) sub (PySem.F.args_bexc_ga _ _) ?_)
 unfold fU.«object.__getattribute__»
 refine wpAny_bind (wpAny_pure (wpAny_bind (wpAny_pure (wpAny_bind (L0.at (wpAny_bind (L2.at ?_)))))))
 dsimp only
 refine wpAny_pure ?_
 show wpAny _ _ (handedOut v) _ _ _
 rw[handedOut_of hh];exact wpAny_pure hQ
end
end
inductive PV where
 | none
 | bool (l:Bool) (b:Bool)
 | int (l:Bool) (i:Int)
 | bytes (l:Bool) (b:List UInt8)
 | str (x:Str)
 | tup (vs:List PV)
 | list (vs:List PV)
 | ba (b:List UInt8)
 | obj (tag:Option au) (C:au) (fs:List (Str×PV))
 | sv (v:af)
 | exc (told:List UInt8)
inductive MV where
 | pv (p:PV)
 | loc (n:Nat)
 | lX (vs:List MV)
inductive eg where
 | inst (C:au) (fs:List (Str×MV))
 | list (rev:List PV)
 | stack (bz:List (List PV))
 | ba (b:List UInt8)
 | ja (fs:List (Str×PV))
 | fZ (ex:Bool) (n:Nat)
 | iT (es:List (List UInt8×PV))
 | clos (asked known:Nat)
 | tab (made:Bool)
noncomputable abbrev br:=List (Nat×eg)
structure Rc where
 P:aV
 G:au→Option Obj
 own:au→Option Nat
 dom:List Nat
 θ:Nat→au
noncomputable abbrev o8(its:List af)(n:Nat):Obj:={cls:=.type "tuple",data:=.seq its.toArray n}
noncomputable abbrev fh(its:List af)(n:Nat):Obj:={cls:=.type "list",data:=.seq its.toArray n}
noncomputable abbrev gR(es:List dD)(n:Nat):Obj:={cls:=.type "dict",data:=.dict es.toArray n}
noncomputable abbrev J5(b:List UInt8):Obj:={cls:=.type "bytearray",data:=.bytearray (cK b) 0}
mutual
inductive cy(P:aV)(G:au→Option Obj):af→PV→Prop
 | none:cy P G .none .none
 | bool {b l}:cy P G (.bool b) (.bool l b)
 | int {i l t}:cy P G (.int i t) (.int l i)
 | bytes {b l t}:cy P G (.bytes (cK b) t) (.bytes l b)
 | str {x t}:cy P G (.str x t) (.str x)
 | tup {a its n vs}:G a=some (o8 its n)→bQ P G its vs→cy P G (.ref a) (.tup vs)
 | list {a its n vs}:G a=some (fh its n)→bQ P G its vs→cy P G (.ref a) (.list vs)
 | ba {a b}:G a=some (J5 b)→cy P G (.ref a) (.ba b)
 | obj {a d C tag es n fs}:(∀ k,tag=some k→a=k)→G a=some (instObj C d)→G d=some (gR es n)→Am P G es fs→cy P G (.ref a) (.obj tag C fs)
 | sv {v}:cy P G v (.sv v)
 | exc {a oe d b t u k}:G a=some oe→oe.cls= .ref 52→oe.dict=some d→(∃ vs,oe.data= .fields vs)→G d=some (gR [⟨aU P "told",.str "told" t,.bytes (cK b) u⟩] k)→cy P G (.ref a) (.exc b)
inductive bQ(P:aV)(G:au→Option Obj):List af→List PV→Prop
 | nil:bQ P G [] []
 | cons {v m vs ms}:cy P G v m→bQ P G vs ms→bQ P G (v::vs) (m::ms)
inductive Am(P:aV)(G:au→Option Obj):List dD→List (Str×PV)→Prop
 | nil:Am P G [] []
 | cons {x t v m es fs}:cy P G v m→Am P G es fs→Am P G (⟨aU P x,.str x t,v⟩::es) ((x,m)::fs)
end
mutual
inductive aW(X:Rc):af→MV→Prop
 | pv {v p}:cy X.P X.G v p→aW X v (.pv p)
 | loc {n}:n ∈ X.dom→aW X (.ref (X.θ n)) (.loc n)
 | lX {a its n vs}:X.G a=some (o8 its n)→bY X its vs→aW X (.ref a) (.lX vs)
inductive bY(X:Rc):List af→List MV→Prop
 | nil:bY X [] []
 | cons {v m vs ms}:aW X v m→bY X vs ms→bY X (v::vs) (m::ms)
end
inductive fW(X:Rc):List dD→List (Str×MV)→Prop
 | nil:fW X [] []
 | cons {x t v m es fs}:aW X v m→fW X es fs→fW X (⟨aU X.P x,.str x t,v⟩::es) ((x,m)::fs)
inductive dQ(X:Rc):List (Str×af)→List (Str×MV)→Prop
 | nil:dQ X [] []
 | cons {x v m vs ms}:aW X v m→dQ X vs ms→dQ X ((x,v)::vs) ((x,m)::ms)
structure Rc.le(X X':Rc):Prop where
 P:X'.P=X.P
 G:∀ a o,X.G a=some o→X'.G a=some o
 dom:∀ n ∈ X.dom,n ∈ X'.dom
 θ:∀ n ∈ X.dom,X'.θ n=X.θ n
theorem Rc.le.refl(X:Rc):X.le X:=⟨rfl,λz_ z_ e=>e,λz_ h=>h,λz_ z_=>rfl⟩
theorem Rc.le.trans{X Y Z:Rc}(a:X.le Y)(b:Y.le Z):X.le Z:=
 ⟨b.P.trans a.P,λx o e=>b.G x o (a.G x o e),λn h=>b.dom n (a.dom n h),λn h=>(b.θ n (a.dom n h)).trans (a.θ n h)⟩
section
variable{X:Rc}{v:af}
noncomputable def O6(P:aV)(G:au→Option Obj)(v:af)(p:PV):Prop:=PV.casesOn (motive_1:=λz_=>Prop) p (v= .none) (λz_ b=>v= .bool b) (λz_ i=>∃ t,v= .int i t) (λz_ b=>∃ t,v= .bytes b.toArray t) (λx=>∃ t,v= .str x t)
 (λvs=>∃ a its m,v= .ref a∧G a=some (o8 its m)∧bQ P G its vs) (λvs=>∃ a its m,v= .ref a∧G a=some (fh its m)∧bQ P G its vs) (λb=>∃ a,v= .ref a∧G a=some (J5 b))
 (λtag C fs=>∃ z d es k,v= .ref z∧(∀ g,tag=some g→z=g)∧G z=some (instObj C d)∧G d=some (gR es k)∧Am P G es fs) (λw=>v=w)
 (λb=>∃ a oe d t u k,v= .ref a∧G a=some oe∧oe.cls= .ref 52∧oe.dict=some d∧(∃ vs,oe.data= .fields vs)∧G d=some (gR [⟨aU P "told",.str "told" t,.bytes (cK b) u⟩] k))
theorem cy.inv{P:aV}{G:au→Option Obj}{p:PV}(h:cy P G v p):O6 P G v p:=by
 cases h with
 | none=>rfl
 | bool=>rfl
 | int=>exact⟨_,rfl⟩
 | bytes=>exact⟨_,rfl⟩
 | str=>exact⟨_,rfl⟩
 | tup g r=>exact⟨_,_,_,rfl,g,r⟩
 | list g r=>exact⟨_,_,_,rfl,g,r⟩
 | ba g=>exact⟨_,rfl,g⟩
 | obj t g1 g2 r=>exact⟨_,_,_,_,rfl,t,g1,g2,r⟩
 | sv=>rfl
 | exc g1 c1 d1 v1 g2=>exact⟨_,_,_,_,_,_,rfl,g1,c1,d1,v1,g2⟩
noncomputable def O8(X:Rc)(v:af)(m:MV):Prop:=MV.casesOn (motive_1:=λz_=>Prop) m (λp=>cy X.P X.G v p) (λk=>v= .ref (X.θ k)∧k ∈ X.dom) (λvs=>∃ a its m,v= .ref a∧X.G a=some (o8 its m)∧bY X its vs)
theorem aW.inv{m:MV}(h:aW X v m):O8 X v m:=by
 cases h with
 | pv h=>exact h
 | loc h=>exact⟨rfl,h⟩
 | lX g r=>exact⟨_,_,_,rfl,g,r⟩
noncomputable def LY(P:aV)(G:au→Option Obj)(its:List af)(l:List PV):Prop:=fk (motive:=λz_=>Prop) l (its=[]) λp ps=>∃ v vs,its=v::vs∧cy P G v p∧bQ P G vs ps
theorem bQ.inv{P:aV}{G:au→Option Obj}{its:List af}{ps:List PV}(h:bQ P G its ps):LY P G its ps:=by
 cases h with
 | nil=>rfl
 | cons a b=>exact⟨_,_,rfl,a,b⟩
noncomputable def LW(P:aV)(G:au→Option Obj)(es:List dD)(l:List (Str×PV)):Prop:=fk (motive:=λz_=>Prop) l (es=[]) λp ps=>∃ t v vs,es=⟨aU P p.1,.str p.1 t,v⟩::vs∧cy P G v p.2∧Am P G vs ps
theorem Am.inv{P:aV}{G:au→Option Obj}{es:List dD}{ps:List (Str×PV)}(h:Am P G es ps):LW P G es ps:=by
 cases h with
 | nil=>rfl
 | cons a b=>exact⟨_,_,_,rfl,a,b⟩
noncomputable def L6(X:Rc)(its:List af)(l:List MV):Prop:=fk (motive:=λz_=>Prop) l (its=[]) λp ps=>∃ v vs,its=v::vs∧aW X v p∧bY X vs ps
theorem bY.inv{its:List af}{ps:List MV}(h:bY X its ps):L6 X its ps:=by
 cases h with
 | nil=>rfl
 | cons a b=>exact⟨_,_,rfl,a,b⟩
noncomputable def LQ(X:Rc)(es:List dD)(l:List (Str×MV)):Prop:=fk (motive:=λz_=>Prop) l (es=[]) λp ps=>∃ t v vs,es=⟨aU X.P p.1,.str p.1 t,v⟩::vs∧aW X v p.2∧fW X vs ps
theorem fW.inv{es:List dD}{ps:List (Str×MV)}(h:fW X es ps):LQ X es ps:=by
 cases h with
 | nil=>rfl
 | cons a b=>exact⟨_,_,_,rfl,a,b⟩
noncomputable def LS(X:Rc)(es:List (Str×af))(l:List (Str×MV)):Prop:=fk (motive:=λz_=>Prop) l (es=[]) λp ps=>∃ v vs,es=(p.1,v)::vs∧aW X v p.2∧dQ X vs ps
theorem dQ.inv{es:List (Str×af)}{ps:List (Str×MV)}(h:dQ X es ps):LS X es ps:=by
 cases h with
 | nil=>rfl
 | cons a b=>exact⟨_,_,rfl,a,b⟩
theorem dQ.nil_inv{its:List (Str×af)}{kw:List (Str×MV)}(h:dQ X its kw)(e:kw=[]):its=[]:=by cases e;exact h.inv
end
section
variable{P:aV}{G G':au→Option Obj}(k:∀ a o,G a=some o→G' a=some o)
include k
theorem cy.mono{v m}(h:cy P G v m):cy P G' v m:=cy.rec (motive_1:=λv m z_=>cy P G' v m) (motive_2:=λv m z_=>bQ P G' v m) (motive_3:=λv m z_=>Am P G' v m)
 .none .bool .int .bytes .str (λg z_ r=>.tup (k _ _ g) r) (λg z_ r=>.list (k _ _ g) r) (λg=>.ba (k _ _ g)) (λt g d z_ r=>.obj t (k _ _ g) (k _ _ d) r) .sv (λg1 c1 d1 v1 g2=>.exc (k _ _ g1) c1 d1 v1 (k _ _ g2)) .nil (λz_ z_ a b=>.cons a b) .nil (λz_ z_ a b=>.cons a b) h
theorem bQ.mono{vs ms}(h:bQ P G vs ms):bQ P G' vs ms:=bQ.rec (motive_1:=λv m z_=>cy P G' v m) (motive_2:=λv m z_=>bQ P G' v m) (motive_3:=λv m z_=>Am P G' v m)
 .none .bool .int .bytes .str (λg z_ r=>.tup (k _ _ g) r) (λg z_ r=>.list (k _ _ g) r) (λg=>.ba (k _ _ g)) (λt g d z_ r=>.obj t (k _ _ g) (k _ _ d) r) .sv (λg1 c1 d1 v1 g2=>.exc (k _ _ g1) c1 d1 v1 (k _ _ g2)) .nil (λz_ z_ a b=>.cons a b) .nil (λz_ z_ a b=>.cons a b) h
end
theorem cy.le{X X':Rc}(k:X.le X'){v m}(h:cy X.P X.G v m):cy X'.P X'.G v m:=by rw[k.P];exact h.mono k.G
theorem bQ.le{X X':Rc}(k:X.le X'){v m}(h:bQ X.P X.G v m):bQ X'.P X'.G v m:=by rw[k.P];exact h.mono k.G
theorem vX{X X':Rc}(k:X.le X'){n}(h:n ∈ X.dom):aW X' (.ref (X.θ n)) (.loc n):=k.θ n h▸ .loc (k.dom n h)
theorem aW.mono{X X':Rc}(k:X.le X'){v m}(h:aW X v m):aW X' v m:=aW.rec (motive_1:=λv m z_=>aW X' v m) (motive_2:=λv m z_=>bY X' v m) (λh=>.pv (h.le k)) (vX k) (λg z_ r=>.lX (k.G _ _ g) r) .nil (λz_ z_ a b=>.cons a b) h
theorem bY.mono{X X':Rc}(k:X.le X'){v m}(h:bY X v m):bY X' v m:=bY.rec (motive_1:=λv m z_=>aW X' v m) (motive_2:=λv m z_=>bY X' v m) (λh=>.pv (h.le k)) (vX k) (λg z_ r=>.lX (k.G _ _ g) r) .nil (λz_ z_ a b=>.cons a b) h
theorem fW.mono{X X':Rc}(k:X.le X'){es fs}(h:fW X es fs):fW X' es fs:=fW.rec (motive:=λes fs z_=>fW X' es fs) .nil (λa z_ b=>by rw[←k.P];exact .cons (a.mono k) b) h
theorem dQ.mono{X X':Rc}(k:X.le X'){es fs}(h:dQ X es fs):dQ X' es fs:=dQ.rec (motive:=λes fs z_=>dQ X' es fs) .nil (λa z_ b=>.cons (a.mono k) b) h
theorem bQ.length{P:aV}{G:au→Option Obj}{vs ms}(h:bQ P G vs ms):vs.length=ms.length:=bQ.rec (motive_1:=λz_ z_ z_=>True) (motive_2:=λvs ms z_=>vs.length=ms.length) (motive_3:=λz_ z_ z_=>True)
 trivial trivial trivial trivial trivial (λz_ z_ z_=>trivial) (λz_ z_ z_=>trivial) (λz_=>trivial) (λz_ z_ z_ z_ z_=>trivial) trivial (λz_ z_ z_ z_ z_=>trivial) rfl (λz_ z_ z_=>congrArg Nat.succ) trivial (λz_ z_ z_ z_=>trivial) h
theorem bY.length{X:Rc}{vs ms}(h:bY X vs ms):vs.length=ms.length:=bY.rec (motive_1:=λz_ z_ z_=>True) (motive_2:=λvs ms z_=>vs.length=ms.length) (λz_=>trivial) (λz_=>trivial) (λz_ z_ z_=>trivial) rfl (λz_ z_ z_=>congrArg Nat.succ) h
theorem fW.length{X:Rc}{vs ms}(h:fW X vs ms):vs.length=ms.length:=fW.rec (motive:=λvs ms z_=>vs.length=ms.length) rfl (λz_ z_=>congrArg Nat.succ) h
section
variable{P:aV}{G:au→Option Obj}
theorem bQ.append{a a' b b'}(h:bQ P G a b)(h':bQ P G a' b'):bQ P G (a++a') (b++b'):=by
 induction b generalizing a with
 | nil=>cases h.inv;exact h'
 | cons m b ih=>obtain⟨v,vs,rfl,h1,h2⟩:=h.inv;exact .cons h1 (ih h2)
theorem bQ.reverse{a b}(h:bQ P G a b):bQ P G a.reverse b.reverse:=by
 induction b generalizing a with
 | nil=>cases h.inv;exact .nil
 | cons m b ih=>obtain⟨v,vs,rfl,h1,h2⟩:=h.inv;rw[cO,cO];exact(ih h2).append (.cons h1 .nil)
theorem bQ.get{vs ms}(h:bQ P G vs ms){i:Nat}{m}(e:ms[i]? =some m):∃ v,vs[i]? =some v∧cy P G v m:=by
 induction ms generalizing vs i with
 | nil=>exact bR e
 | cons p ms ih=>
  refine E2_3 h.inv λv vs eV h1 h2=>?_
  subst eV
  cases i with
  | zero=>exact⟨v,rfl,aK e▸h1⟩
  | succ i=>exact ih h2 e
theorem bQ.take{vs ms}(h:bQ P G vs ms)(k:Nat):bQ P G (vs.take k) (ms.take k):=by
 induction ms generalizing vs k with
 | nil=>cases h.inv;cases k <;> exact .nil
 | cons p ms ih=>
  refine E2_3 h.inv λv vs eV h1 h2=>?_
  subst eV
  cases k with
  | zero=>exact .nil
  | succ k=>exact .cons h1 (ih h2 k)
theorem bQ.drop{vs ms}(h:bQ P G vs ms)(k:Nat):bQ P G (vs.drop k) (ms.drop k):=by
 induction ms generalizing vs k with
 | nil=>cases h.inv;cases k <;> exact .nil
 | cons p ms ih=>
  refine E2_3 h.inv λv vs eV h1 h2=>?_
  subst eV
  cases k with
  | zero=>exact .cons h1 h2
  | succ k=>exact ih h2 k
end
structure Q5 where
 name:Str
 qual:Str
 params:Arguments
 body:List dO
 scope:nY
 pos:Pos
 tab:au
structure Sx where
 prog:cP
 fN:Q5
 w:cE
 K:Frag
 h₀:b9
 mg:Str→Option af
 mb:Str→Option af
 p:cP
 loose:List Str
structure Sx.Ok(S:Sx):Prop where
 X:S.K.In S.h₀
 T:TopRead S.p S.loose S.mg S.mb S.h₀
inductive rV(X:Rc)(h:b9)(n:Nat):List au→List (List PV)→Prop
 | nil:rV X h n [] []
 | cons {a its k rev as bz}:h.get? a=some (fh its k)→X.own a=some n→bQ X.P X.G its.reverse rev→rV X h n as bz→rV X h n (a::as) (rev::bz)
inductive rC{κ:Type}(P:aV)(G:au→Option Obj):List (κ×af)→List (κ×PV)→Prop
 | nil:rC P G [] []
 | cons {x v m es fs}:cy P G v m→rC P G es fs→rC P G ((x,v)::es) ((x,m)::fs)
theorem rC.mono{κ:Type}{P:aV}{G G':au→Option Obj}(k:∀ a o,G a=some o→G' a=some o){es:List (κ×af)}{fs:List (κ×PV)}(h:rC P G es fs):rC P G' es fs:=rC.rec (motive:=λes fs z_=>rC P G' es fs) .nil (λa z_ b=>.cons (a.mono k) b) h
noncomputable def LX{κ:Type}(P:aV)(G:au→Option Obj)(es:List (κ×af))(l:List (κ×PV)):Prop:=fk (motive:=λz_=>Prop) l (es=[]) λp ps=>∃ v vs,es=(p.1,v)::vs∧cy P G v p.2∧rC P G vs ps
theorem rC.inv{κ:Type}{P:aV}{G:au→Option Obj}{es:List (κ×af)}{fs:List (κ×PV)}(h:rC P G es fs):LX P G es fs:=by
 cases h with
 | nil=>rfl
 | cons a b=>exact⟨_,_,rfl,a,b⟩
noncomputable def D8(G:au→Option Obj)(c:au)(qual:Str):Prop:=∃ o vs t,G c=some o∧o.data= .fields vs∧vs[1]? =some (.str qual t)
theorem D8.mono{G G':au→Option Obj}(k:∀ a o,G a=some o→G' a=some o){c:au}{q:Str}(h:D8 G c q):D8 G' c q:=by
 obtain⟨o,vs,t,a,b⟩:=h;exact⟨o,vs,t,k _ _ a,b⟩
inductive qU(S:Sx)(X:Rc)(a:au)(asked known:Nat):Prop
 | mk {doc pm c ctv ca ck oa ok} (d1:asked ∈ X.dom) (d2:known ∈ X.dom) (g:X.G a=some (fnMade S.fN.name S.fN.qual S.fN.params S.fN.body S.fN.scope [("known",ck),("asked",ca)] doc pm c ctv)) (rc:D8 X.G c S.fN.qual)
  (ga:X.G ca=some oa) (da:oa.data= .cell (some (.ref (X.θ asked)))) (gk:X.G ck=some ok) (dk:ok.data= .cell (some (.ref (X.θ known)))):qU S X a asked known
theorem qU.mono{S:Sx}{X X':Rc}(k:X.le X'){a b c}(h:qU S X a b c):qU S X' a b c:=by
 obtain⟨d1,d2,g,rc,ga,da,gk,dk⟩:=h
 exact⟨k.dom _ d1,k.dom _ d2,k.G _ _ g,rc.mono k.G,k.G _ _ ga,by rw[k.θ _ d1];exact da,k.G _ _ gk,by rw[k.θ _ d2];exact dk⟩
noncomputable def yf(S:Sx)(X:Rc)(ps:Array af)(b:Bool):Prop:=cond b (∃ c,ps= #[rawInt S.fN.pos.line,rawInt S.fN.pos.col,.ref c]∧D8 X.G c S.fN.qual) (ps= #[])
theorem yf.mono{S:Sx}{X X':Rc}(k:X.le X'){ps b}(t:yf S X ps b):yf S X' ps b:=by
 cases b with
 | false=>exact t
 | true=>obtain⟨c,h1,h2⟩:=t;exact⟨c,h1,h2.mono k.G⟩
inductive gQ(S:Sx)(X:Rc)(h:b9)(n:Nat):eg→Prop
 | inst {C d es k fs}:h.get? (X.θ n)=some (instObj C d)→X.own (X.θ n)=some n→h.get? d=some (gR es k)→X.own d=some n→fW X es fs→gQ S X h n (.inst C fs)
 | list {its k rev}:h.get? (X.θ n)=some (fh its k)→X.own (X.θ n)=some n→bQ X.P X.G its.reverse rev→gQ S X h n (.list rev)
 | stack {as:List au}{k bz}:h.get? (X.θ n)=some (fh (as.reverse.map .ref) k)→X.own (X.θ n)=some n→(X.θ n::as).Nodup→rV X h n as bz→gQ S X h n (.stack bz)
 | ba {b}:h.get? (X.θ n)=some (J5 b)→X.own (X.θ n)=some n→gQ S X h n (.ba b)
 | ja {kvs fs}:h.DictOf (strKind S.prog S.w) (X.θ n) kvs→X.own (X.θ n)=some n→rC X.P X.G kvs fs→gQ S X h n (.ja fs)
 | fZ {kvs m ex}:h.DictOf (intKind S.prog S.w) (X.θ n) kvs→X.own (X.θ n)=some n→kvs.length≤m→(ex=true→kvs.length=m)→gQ S X h n (.fZ ex m)
 | iT {kvs es}:h.DictOf (bytesKind S.prog S.w) (X.θ n) kvs→X.own (X.θ n)=some n→rC X.P X.G kvs es→gQ S X h n (.iT es)
 | clos {asked known}:qU S X (X.θ n) asked known→gQ S X h n (.clos asked known)
 | tab {ps made}:h.get? (X.θ n)=some (tabObj ps)→X.own (X.θ n)=some n→yf S X ps made→X.θ n=S.fN.tab→gQ S X h n (.tab made)
theorem rV.mono{X X':Rc}{h h':b9}{n:Nat}(k:X.le X'){as bz}(s:rV X h n as bz)(q:∀ a,X.own a=some n→X'.own a=some n∧∀ o,h.get? a=some o→h'.get? a=some o):rV X' h' n as bz:=
 rV.rec (motive:=λas bz z_=>rV X' h' n as bz) .nil (λg o r z_ t=>.cons ((q _ o).2 _ g) (q _ o).1 (r.le k) t) s
theorem rV.owned{X:Rc}{h:b9}{n:Nat}{as bz}(s:rV X h n as bz):∀ a ∈ as,X.own a=some n:=rV.rec (motive:=λas z_ z_=>∀ a ∈ as,X.own a=some n) (λz_ h=>jd h) (λz_ o z_ z_ t=>gP.mpr ⟨o,t⟩) s
theorem gQ.mono{S:Sx}{X X':Rc}{h h':b9}{n:Nat}{o:eg}(k:X.le X')(hn:n ∈ X.dom)(r:gQ S X h n o)
  (q:∀ a,X.own a=some n→X'.own a=some n∧∀ ob,h.get? a=some ob→h'.get? a=some ob):gQ S X' h' n o:=by
 have e:=k.θ n hn
 have g':∀ {ob},h.get? (X.θ n)=some ob→X.own (X.θ n)=some n→h'.get? (X'.θ n)=some ob:=λg o=>e▸(q _ o).2 _ g
 have o':X.own (X.θ n)=some n→X'.own (X'.θ n)=some n:=λo=>e▸(q _ o).1
 cases r with
 | inst g o d p r=>exact .inst (g' g o) (o' o) ((q _ p).2 _ d) (q _ p).1 (r.mono k)
 | list g o r=>exact .list (g' g o) (o' o) (r.le k)
 | stack g o nd t=>exact .stack (g' g o) (o' o) (e.symm▸nd) (t.mono k q)
 | ba g o=>exact .ba (g' g o) (o' o)
 | ja g o r=>exact .ja (by rw[e];exact g.at (λob=>(q _ o).2 ob)) (o' o) (by rw[k.P];exact r.mono k.G)
 | fZ g o r x=>exact .fZ (by rw[e];exact g.at (λob=>(q _ o).2 ob)) (o' o) r x
 | iT g o r=>exact .iT (by rw[e];exact g.at (λob=>(q _ o).2 ob)) (o' o) (by rw[k.P];exact r.mono k.G)
 | clos c=>exact .clos (e.symm▸c.mono k)
 | tab g o t q=>exact .tab (g' g o) (o' o) (t.mono k) (e.trans q)
noncomputable def cN(F:br)(n:Nat):Option eg:=bA (motive:=λz_=>Option eg) none (λp z_ q=>cond (aX p.1 n) (some p.2) q) F
noncomputable def jV(F:br)(n:Nat)(o:eg):br:=bA (motive:=λz_=>br) [] (λp r q=>cond (aX p.1 n) ((p.1,o)::r) (p::q)) F
noncomputable def iF(F:br)(n:Nat):br:=bA (motive:=λz_=>br) [] (λp z_ q=>cond (aX p.1 n) q (p::q)) F
theorem ji(p:Nat×eg)(r:br)(n:Nat):cN (p::r) n=cond (aX p.1 n) (some p.2) (cN r n):=rfl
theorem bX{m n:Nat}(e:aX m n=true):m=n:=Nat.eq_of_beq_eq_true e
theorem iX{m n:Nat}(e:aX m n=false):m≠n:=Nat.ne_of_beq_eq_false e
theorem wk{m k:Nat}(e:m≠k):aX m k=false:=by cases z:aX m k with | false=>rfl | true=>exact absurd (bX z) e
theorem EV(F:br)(n k:Nat)(o:eg):cN (jV F n o) k=if n=k then(cN F n).map (λz_=>o) else cN F k:=by
 induction F with
 | nil=>by_cases e:n=k <;> simp only[e,if_true,if_false] <;> rfl
 | cons p r ih=>
  rw[ji p r n,ji p r k]
  show cN (cond (aX p.1 n) ((p.1,o)::r) (p::jV r n o)) k=_
  cases h:aX p.1 n with
  | true=>
   cases bX h
   by_cases e:p.1=k
   ·rw[if_pos e,cond_true,ji,e,Nat.beq_refl];rfl
   ·rw[if_neg e,wk e,cond_true,ji,wk e];rfl
  | false=>
   rw[cond_false,cond_false,ji,ih]
   by_cases e:n=k
   ·cases e;rw[if_pos rfl,if_pos rfl,h];rfl
   ·rw[if_neg e,if_neg e]
theorem mP(F:br)(n k:Nat):cN (iF F n) k=if n=k then none else cN F k:=by
 induction F with
 | nil=>by_cases e:n=k <;> simp only[e,if_true,if_false] <;> rfl
 | cons p r ih=>
  rw[ji p r k]
  show cN (cond (aX p.1 n) (iF r n) (p::iF r n)) k=_
  cases h:aX p.1 n with
  | true=>
   cases bX h
   rw[cond_true,ih]
   by_cases e:p.1=k
   ·rw[if_pos e,if_pos e]
   ·rw[if_neg e,if_neg e,wk e];rfl
  | false=>
   rw[cond_false,ji,ih]
   by_cases e:n=k
   ·cases e;rw[if_pos rfl,if_pos rfl,h];rfl
   ·rw[if_neg e,if_neg e]
structure Snap where
 X:Rc
 h:b9
structure Inv(S:Sx)(F:br)(n:Snap):Prop where
 P:n.X.P=S.w.params
 base:∀ a o,S.h₀.get? a=some o→n.X.G a=some o
 sub:∀ a o,n.X.G a=some o→n.h.get? a=some o
 foot:∀ k o,cN F k=some o→k ∈ n.X.dom∧gQ S n.X n.h k o
 off:∀ a k,n.X.own a=some k→n.X.G a=none∧∃ o,n.h.get? a=some o
structure dB(own fr cl:List au)(n n':Snap):Prop where
 le:n.X.le n'.X
 keep:∀ b o,n.h.get? b=some o→n.X.own b=none→b ∉ own→(b ∉ fr→n'.h.get? b=some o)∧(b ∈ fr→∃ sl,n'.h.get? b=some {o with slots:=sl})
 live:∀ b o,n.h.get? b=some o→∃ o',n'.h.get? b=some o'
 mW:∀ a k,n'.X.own a=some k→(∃ k',n.X.own a=some k')∨n.h.get? a=none
 jt:∀ a o,n'.X.G a=some o→n.X.G a=some o∨(∃ k',n.X.own a=some k')∨n.h.get? a=none∨a ∈ cl
theorem dB.refl{own fr cl:List au}(n:Snap):dB own fr cl n n:=
 ⟨.refl _,λb o e z_ z_=>⟨λz_=>e,λz_=>⟨o.slots,e⟩⟩,λb o e=>⟨o,e⟩,λz_ k h=>.inl ⟨k,h⟩,λz_ z_ h=>.inl h⟩
theorem dg{h h':b9}(l:∀ b o,h.get? b=some o→∃ o',h'.get? b=some o'){b:au}(e:h'.get? b=none):h.get? b=none:=by
 cases q:h.get? b with
 | none=>rfl
 | some o=>obtain⟨o',e'⟩:=l b o q;rw[e] at e';exact bR e'
theorem dB.iD{own fr cl:List au}{n n':Snap}(a:dB own fr cl n n'){b:au}{o:Obj}(e:n.h.get? b=some o)(h:n.X.own b=none):n'.X.own b=none:=by
 cases q:n'.X.own b with
 | none=>rfl
 | some k=>
  rcases a.mW b k q with ⟨k',z⟩ | z
  ·rw[h] at z;exact bR z
  ·rw[e] at z;exact Ag z
theorem dB.trans{own fr cl:List au}{n n' nS:Snap}(a:dB own fr cl n n')(b:dB own fr cl n' nS):dB own fr cl n nS where
 le:=a.le.trans b.le
 keep:=λx o e hf ho=>by
  have hf':=a.iD e hf
  obtain⟨a1,a2⟩:=a.keep x o e hf ho
  refine⟨λhr=>(b.keep x o (a1 hr) hf' ho).1 hr,λhr=>?_⟩
  obtain⟨sl,e1⟩:=a2 hr
  obtain⟨T6,e2⟩:=(b.keep x _ e1 hf' ho).2 hr
  exact⟨T6,e2⟩
 live:=λx o e=>by obtain⟨o',e'⟩:=a.live x o e;exact b.live x o' e'
 mW:=λx k hx=>(b.mW x k hx).elim (λ⟨k',z⟩=>a.mW x k' z) λz=>.inr (dg a.live z)
 jt:=λx o e=>(b.jt x o e).elim (a.jt x o) λz=>.inr (z.elim (λ⟨k',z⟩=>(a.mW x k' z).elim .inl (λq=>.inr (.inl q))) λz=>.inr (z.imp_left (dg a.live)))
theorem dB.wide{own fr cl:List au}{n n':Snap}(a:dB [] fr [] n n'):dB own fr cl n n':=
 ⟨a.le,λb o e h1 z_=>a.keep b o e h1 (λh=>jd h),a.live,a.mW,λx o e=>(a.jt x o e).imp_right λz=>z.imp_right λz=>z.elim .inl λq=>jd q⟩
theorem Inv.grow{S:Sx}{F:br}{n:Snap}(I:Inv S F n){h':b9}(k:∀ b o,n.h.get? b=some o→h'.get? b=some o):Inv S F ⟨n.X,h'⟩:=
 ⟨I.P,I.base,λa o e=>k a o (I.sub a o e),λj o e=>⟨(I.foot j o e).1,(I.foot j o e).2.mono (.refl _) (I.foot j o e).1 λa ha=>⟨ha,λob e=>k a ob e⟩⟩,λa j e=>⟨(I.off a j e).1,(I.off a j e).2.elim λo e=>⟨o,k a o e⟩⟩⟩
theorem dB.grow{own fr cl:List au}{n:Snap}{h':b9}(k:∀ b o,n.h.get? b=some o→h'.get? b=some o):dB own fr cl n ⟨n.X,h'⟩:=
 ⟨.refl _,λb o e z_ z_=>⟨λz_=>k b o e,λz_=>⟨o.slots,k b o e⟩⟩,λb o e=>⟨o,k b o e⟩,λz_ j h=>.inl ⟨j,h⟩,λz_ z_ h=>.inl h⟩
structure Fx where
 A:bC
 env:Env
 fr:List Env
 lv:Nat
noncomputable def Fx.cZ(f:Fx):List au:=f.fr.filterMap (·.frame)
noncomputable def Fx.cl(f:Fx):List au:=f.env.cells.map (·.2)
noncomputable def Fx.own(f:Fx):List au:=f.env.locals::f.cl
structure CO(A:bC)(fr:List Env)(lv:Nat):Prop where
 frames:A.frames=some fr
 depth:A.depth+3*lv≤880
 units:A.units+24*lv≤9600
structure Fx.Ok(f:Fx):Prop where
 room:CO f.A f.fr f.lv
 kind:f.env.scope.kind= .function
 globals:f.env.globals=mainGlobals
 builtins:f.env.builtins=builtinsNs
 apart:∀ a ∈ f.env.locals::f.cZ,a ∉ f.env.cells.map (·.2)
 here:∃ me outer,f.fr=me::outer∧f.env.frame=me.frame∧me.frame.isSome=true
 handled:1≤f.lv→f.A.handled=none
noncomputable abbrev dS:b9:={objs:= #[]}
structure St where
 locs:List (Str×MV)
 foot:br
 dom:List Nat
 un:List Str:=[]
noncomputable def FD(a:List Nat):List Nat→Bool:=bA (motive:=λz_=>List Nat→Bool) (λb=>fk (motive:=λz_=>Bool) b true λz_ z_=>false) (λx z_ q b=>fk (motive:=λz_=>Bool) b false λy b=>cond (aX x y) (q b) false) a
noncomputable def bT(x y:Str):Bool:=FD x.cps.toList y.cps.toList
theorem Dn{a b:List Nat}:FD a b=true ↔ a=b:=by
 induction a generalizing b with
 | nil=>cases b with
  | nil=>exact⟨λz_=>rfl,λz_=>rfl⟩
  | cons y b=>exact⟨nofun,nofun⟩
 | cons x a ih=>cases b with
  | nil=>exact⟨nofun,nofun⟩
  | cons y b=>
   show cond (aX x y) (FD a b) false=true ↔ _
   cases h:aX x y with
   | true=>cases bX h;exact⟨λq=>congrArg _ (ih.mp q),λq=>ih.mpr (List.tail_eq_of_cons_eq q)⟩
   | false=>exact⟨nofun,λq=>absurd (List.head_eq_of_cons_eq q) (iX h)⟩
theorem bZ{x y:Str}:bT x y=true ↔ x=y:=by
 unfold bT
 rw[Dn]
 constructor
 ·intro h;cases x;cases y;simp only[Str.mk.injEq];exact Array.toList_inj.mp h
 ·intro h;rw[h]
theorem iE{x y:Str}(h:bT x y=false):x≠y:=λe=>by rw[bZ.mpr e] at h;cases h
noncomputable def lk{α:Type}(l:List (Str×α))(x:Str):Option α:=bA (motive:=λz_=>Option α) none (λp z_ q=>cond (bT p.1 x) (some p.2) q) l
noncomputable def put{α:Type}(l:List (Str×α))(x:Str)(v:α):List (Str×α):=bA (motive:=λz_=>List (Str×α)) [(x,v)] (λp r q=>cond (bT p.1 x) ((p.1,v)::r) (p::q)) l
theorem pW{α:Type}(p:Str×α)(r:List (Str×α))(x:Str):lk (p::r) x=cond (bT p.1 x) (some p.2) (lk r x):=rfl
theorem l8{x y:Str}(h:x≠y):bT x y=false:=by cases q:bT x y with | false=>rfl | true=>exact absurd (bZ.mp q) h
theorem lO(x:Str):bT x x=true:=bZ.mpr rfl
theorem Fl{α:Type}(l:List (Str×α))(x y:Str)(v:α):lk (put l x v) y=if x=y then some v else lk l y:=by
 induction l with
 | nil=>
  show cond (bT x y) (some v) none=_
  by_cases e:x=y
  ·rw[if_pos e,e,lO];rfl
  ·rw[if_neg e,l8 e];rfl
 | cons p r ih=>
  rw[pW p r y]
  show lk (cond (bT p.1 x) ((p.1,v)::r) (p::put r x v)) y=_
  cases h:bT p.1 x with
  | true=>
   cases bZ.mp h
   rw[cond_true,pW]
   by_cases e:p.1=y
   ·rw[if_pos e,e,lO];rfl
   ·rw[if_neg e,l8 e];rfl
  | false=>
   rw[cond_false,pW,ih]
   by_cases e:x=y
   ·cases e;rw[if_pos rfl,if_pos rfl,h];rfl
   ·rw[if_neg e,if_neg e]
noncomputable def JY(f:Fx)(n:Snap)(locs:List (Str×MV))(un:List Str):Prop:=
 ∃ m,n.h.Ns f.env.locals m∧
  (∀ x mv,lk locs x=some mv→∃ v,aW n.X v mv∧match f.env.kindOf x with
   | some .local=>m x=some v
   | some .cell | some .free=>∃ c o,f.env.cells.lookup x=some c∧n.X.G c=some o∧o.data= .cell (some v)
   | _=>False)∧
  (∀ x ∈ un,f.env.kindOf x=some .cell∧∃ c,f.env.cells.lookup x=some c∧n.X.own c=none∧n.X.G c=none∧∃ o,n.h.get? c=some o∧o.data= .cell none)
noncomputable def Off(rs:List au)(n:Snap):Prop:=∀ a ∈ rs,n.X.own a=none∧n.X.G a=none∧∃ o,n.h.get? a=some o
structure CRel(S:Sx)(fr:List Env)(F:br)(dom:List Nat)(n:Snap):Prop where
 inv:Inv S F n
 dom:n.X.dom=dom
 off:Off (fr.filterMap (·.frame)) n
 frames:n.h.FunFrames dS fr
structure bu(S:Sx)(f:Fx)(σ:St)(n:Snap):Prop extends CRel S f.fr σ.foot σ.dom n where
 locs:JY f n σ.locs σ.un
 kB:n.X.own f.env.locals=none∧n.X.G f.env.locals=none
 cells:∀ c ∈ f.cl,∃ o,n.h.get? c=some o
theorem Ic{rs own fr cl:List au}{n n':Snap}(o:Off rs n)(ev:dB own fr cl n n')(hc:∀ a ∈ rs,a ∉ cl):Off rs n':=λa ha=>by
  refine fO λzz=>?_
  obtain⟨h1,h2,ob,h3⟩:=o a ha
  refine zz ?_
  refine⟨ev.iD h3 h1,?_,ev.live a ob h3⟩
  cases q:n'.X.G a with
  | none=>rfl
  | some o'=>
   rcases ev.jt a o' q with z | ⟨k,z⟩ | z | z
   ·rw[h2] at z;exact bR z
   ·rw[h1] at z;exact bR z
   ·rw[h3] at z;exact Ag z
   ·exact absurd z (hc a ha)
theorem s9{fr:List au}{n n':Snap}(ev:dB [] fr [] n n'){b:au}{o:Obj}(e:n.h.get? b=some o)(hf:n.X.own b=none):∃ sl,n'.h.get? b=some {o with slots:=sl}:=by
 refine A2 (ev.keep b o e hf (λh=>jd h)) λk1 k2=>?_
 by_cases hb:b ∈ fr
 ·exact k2 hb
 ·exact⟨o.slots,k1 hb⟩
theorem Ko{fr:List au}{n n':Snap}(ev:dB [] fr [] n n'){b:au}{m:Str→Option af}(e:n.h.Ns b m)(hf:n.X.own b=none):n'.h.Ns b m:=by
 refine E3_3 e λo es ep ho hd r=>?_
 refine E1_1 (s9 ev ho hf) λsl e'=>?_
 exact⟨_,es,ep,e',hd,r⟩
theorem q9{own fr cl:List au}{n n':Snap}(ev:dB own fr cl n n'){b:au}{o:Obj}(e:n.h.get? b=some o)(hf:n.X.own b=none)(hg:n.X.G b=none)(hc:b ∉ cl):n'.X.G b=none:=by
 cases q:n'.X.G b with
 | none=>rfl
 | some o'=>
  rcases ev.jt b o' q with z | ⟨k,z⟩ | z | z
  ·rw[hg] at z;exact bR z
  ·rw[hf] at z;exact bR z
  ·rw[e] at z;exact Ag z
  ·exact absurd z hc
theorem Fp{f:Fx}{n n':Snap}{locs:List (Str×MV)}{un:List Str}(l:JY f n locs un)(o:n.X.own f.env.locals=none)(ev:dB [] f.cZ [] n n'):JY f n' locs un:=by
 refine E1_3 l λm hm h1 h2=>?_
 refine⟨m,Ko ev hm o,λx mv e=>?_,λx hx=>?_⟩
 ·refine E1_2 (h1 x mv e) λv hv r=>?_
  refine⟨v,hv.mono ev.le,?_⟩
  split at r
  ·exact r
  ·obtain⟨c,ob,a1,a2,a3⟩:=r;exact⟨c,ob,a1,ev.le.G _ _ a2,a3⟩
  ·obtain⟨c,ob,a1,a2,a3⟩:=r;exact⟨c,ob,a1,ev.le.G _ _ a2,a3⟩
  ·exact r
 ·refine fO λzz=>?_
  obtain⟨hk,c,a1,a2,a3,ob,a4,a5⟩:=h2 x hx
  refine zz ?_
  refine E1_1 (s9 ev a4 a2) λsl e'=>?_
  exact⟨hk,c,a1,ev.iD a4 a2,q9 ev a4 a2 a3 (λh=>jd h),_,e',a5⟩
theorem AH{n n':Snap}{fr:List au}(ev:dB [] fr [] n n'):∀ {l:List Env},n.h.FunFrames dS l→(∀ a ∈ l.filterMap (·.frame),n.X.own a=none)→n'.h.FunFrames dS l
:=by
 intro l
 induction l with
 | nil=>exact λ_ _=>trivial
 | cons env r ih=>
  intro q h
  refine A3 (show _∧_∧_ from q) λhk hx hr=>E2_4 hx λL o hf hn ho hd=>?_
  refine E1_1 (s9 ev ho (h L (by simp[hf]))) λsl e=>?_
  exact⟨hk,⟨L,_,hf,hn,e,hd⟩,ih hr λa ha=>h a (by rw[eK,hf];exact dj _ ha)⟩
theorem CRel.pN{S:Sx}{fr:List Env}{F F':br}{dom dom':List Nat}{n n':Snap}(r:CRel S fr F dom n)(ev:dB [] (fr.filterMap (·.frame)) [] n n')(inv:Inv S F' n')(hd:n'.X.dom=dom'):CRel S fr F' dom' n':=
 ⟨inv,hd,Ic r.off ev (λz_ z_ h=>jd h),AH ev r.frames λa ha=>(r.off a ha).1⟩
theorem Ns.live{h:b9}{b:au}{m:Str→Option af}(e:h.Ns b m):∃ o,h.get? b=some o:=by
 obtain⟨o,es,ep,ho,_⟩:=e;exact⟨o,ho⟩
theorem bu.pN{S:Sx}{f:Fx}{σ σ':St}{n n':Snap}(r:bu S f σ n)(ev:dB [] f.cZ [] n n')(inv:Inv S σ'.foot n')(dom:n'.X.dom=σ'.dom)(hl:σ'.locs=σ.locs)(hu:σ'.un=σ.un):bu S f σ' n':=by
 refine⟨r.toCRel.pN ev inv dom,by rw[hl,hu];exact Fp r.locs r.kB.1 ev,?_,λc hc=>(r.cells c hc).elim λo e=>ev.live c o e⟩
 refine E1_2 r.locs λm hm z_=>?_
 refine E1_1 (Ns.live hm) λo ho=>?_
 exact⟨ev.iD ho r.kB.1,q9 ev ho r.kB.1 r.kB.2 (λh=>jd h)⟩
inductive Res(α:Type) where
 | ok (a:α)
 | exc (told:List UInt8)
inductive cj where
 | next | cont | brk | ret (v:MV)
noncomputable abbrev M(α:Type):=St→(Res α→St→Prop)→Prop
noncomputable abbrev PT(α:Type):=(α→ah→Prop)→(af→ah→Prop)→ah→Prop
noncomputable abbrev M.ret{α:Type}(a:α):M α:=λσ Q=>Q (.ok a) σ
noncomputable abbrev M.no{α:Type}:M α:=λz_ z_=>False
noncomputable abbrev rK(b:Bool)(x y:Prop):Prop:=Bool.rec (motive:=λz_=>Prop) y x b
noncomputable abbrev M.need{α:Type}(b:Bool)(m:M α):M α:=λσ Q=>rK b (m σ Q) False
noncomputable abbrev M.iff{α:Type}(b:Bool)(x y:M α):M α:=λσ Q=>rK b (x σ Q) (y σ Q)
theorem h_{b:Bool}{x:Prop}(h:rK b x False):b=true∧x:=by
 cases b with
 | true=>exact⟨rfl,h⟩
 | false=>exact h.elim
theorem yk{b:Bool}{x:Prop}(h:rK b False x):b=false∧x:=by
 cases b with
 | true=>exact h.elim
 | false=>exact⟨rfl,h⟩
noncomputable def pH{α β:Type}(k:α→M β)(Q:Res β→St→Prop)(r:Res α)(σ:St):Prop:=match r with
 | .ok a=>k a σ Q
 | .exc t=>Q (.exc t) σ
noncomputable abbrev M.andThen{α β:Type}(m:M α)(k:α→M β):M β:=λσ Q=>m σ (pH k Q)
noncomputable abbrev M.get{α:Type}(k:St→M α):M α:=λσ=>k σ σ
noncomputable abbrev M.ex{α β:Type}(p:α→Prop)(k:α→M β):M β:=λσ Q=>∃ a,p a∧k a σ Q
structure lR(h0:b9)(n:Snap)(a:au):Prop where
 new:h0.get? a=none
 own:n.X.own a=none
 G:n.X.G a=none
inductive Tb(F:af→Prop)(h0:b9)(e:au)(n:Snap)(d:au)(vs:Array af):Prop
 | mk {T oT ts fl} (h:vs[1]? =some (.ref T)) (ne:T≠e) (nd:T≠d) (b:lR h0 n T) (g:n.h.get? T=some oT) (da:oT.data= .fields ts) (f3:ts[3]? =some fl) (hf:F fl):Tb F h0 e n d vs
inductive f7(W:au→Array af→Prop)(told:List UInt8)(h0:b9)(e:au)(n:Snap):Prop
 | mk {d oe vs t u k} (ne:e≠d) (be:lR h0 n e) (bd:lR h0 n d) (ge:n.h.get? e=some oe) (c:oe.cls= .ref 52) (od:oe.dict=some d) (da:oe.data= .fields vs)
  (gd:n.h.get? d=some (gR [⟨aU n.X.P "told",.str "told" t,.bytes told.toArray u⟩] k)) (w:W d vs):f7 W told h0 e n
noncomputable def OW(L:Option au)(fl:af):Prop:=fl= .none∨∃ l,L=some l∧fl=rawInt l
noncomputable def Trace(L:Option au)(h0:b9)(e:au)(n:Snap)(d:au)(vs:Array af):Prop:=vs[1]? =some .none∨Tb (OW L) h0 e n d vs
noncomputable abbrev eN(L:Option au)(told:List UInt8)(h0:b9)(e:au)(n:Snap):Prop:=f7 (Trace L h0 e n) told h0 e n
noncomputable abbrev BX(L:au)(told:List UInt8)(h0:b9)(e:au)(n:Snap):Prop:=f7 (Tb (λfl=>fl=rawInt L) h0 e n) told h0 e n
theorem Tb.map{F F':af→Prop}{h0 h0':b9}{e d:au}{X X':Rc}{h:b9}{vs:Array af}(t:Tb F h0 e ⟨X,h⟩ d vs)(hb:∀ a,lR h0 ⟨X,h⟩ a→lR h0' ⟨X',h⟩ a)(hF:∀ v,F v→F' v):Tb F' h0' e ⟨X',h⟩ d vs:=by
 obtain⟨h,ne,nd,b,g,da,f3,hf⟩:=t
 exact⟨h,ne,nd,hb _ b,g,da,f3,hF _ hf⟩
theorem f7.map{W W':au→Array af→Prop}{told:List UInt8}{h0 h0':b9}{e:au}{X X':Rc}{h:b9}(F:f7 W told h0 e ⟨X,h⟩)(hb:∀ a,lR h0 ⟨X,h⟩ a→lR h0' ⟨X',h⟩ a)(hP:X'.P=X.P)(hW:∀ d vs,W d vs→W' d vs):f7 W' told h0' e ⟨X',h⟩:=by
 obtain⟨ne,be,bd,ge,c,od,da,gd,w⟩:=F
 exact⟨ne,hb _ be,hb _ bd,ge,c,od,da,(congrArg (λP=>h.get? _=some (gR [⟨aU P "told",_,_⟩] _)) hP).mpr gd,hW _ _ w⟩
theorem eN.older{L:Option au}{told:List UInt8}{h0 h1:b9}{e:au}{n:Snap}(F:eN L told h1 e n)(l:∀ b o,h0.get? b=some o→∃ o',h1.get? b=some o'):eN L told h0 e n:=
 have hb:∀ a,lR h1 n a→lR h0 n a:=λa b=>⟨dg l b.new,b.own,b.G⟩
 f7.map F hb rfl λd vs w=>w.imp_right λt=>t.map hb λz_=>id
theorem f7.flight{L:au}{told:List UInt8}{h0:b9}{e:au}{n:Snap}(x:BX L told h0 e n):eN (some L) told h0 e n:=x.map (λz_=>id) rfl λz_ z_ t=>.inr (t.map (λz_=>id) λz_ q=>.inr ⟨L,rfl,q⟩)
noncomputable def Fx.L(f:Fx):Option au:=f.env.frame
noncomputable def At{α β:Type}(S:Sx)(f:Fx)(T:PT α)(R:Rc→α→β→Prop)(Q:Res β→St→Prop)(n:Snap):Prop:=
 ∀ (g:Array GenState) (d:Drawn) (tk:Nat) (os:cT) (Q':α→ah→Prop) (E':af→ah→Prop),
  (∀ n' tk' σ',dB f.own f.cZ f.cl n n'→bu S f σ' n'→
   (∀ b,Q (.ok b) σ'→∀ a,R n'.X a b→Q' a ⟨n'.h,g,d,tk',os⟩)∧
   (∀ t,Q (.exc t) σ'→∀ e,eN f.L t n.h e n'→E' (.ref e) ⟨n'.h,g,d,tk',os⟩))→T Q' E' ⟨n.h,g,d,tk,os⟩
noncomputable def Sd{α β:Type}(S:Sx)(f:Fx)(T:PT α)(R:Rc→α→β→Prop)(m:M β)(n:Snap):Prop:=
 ∀ σ Q,bu S f σ n→m σ Q→At S f T R Q n
noncomputable abbrev RV(X:Rc)(v:af)(m:MV):Prop:=aW X v m
noncomputable abbrev LC(X:Rc)(v:List af)(m:List MV):Prop:=bY X v m
noncomputable abbrev LZ(X:Rc)(v:List (Str×af))(m:List (Str×MV)):Prop:=dQ X v m
noncomputable abbrev oJ(α:Type)(_:Rc)(a b:α):Prop:=a=b
inductive dc(X:Rc):Flow→cj→Prop
 | next:dc X .next .next
 | cont:dc X .cont .cont
 | brk:dc X .brk .brk
 | ret {v m}:aW X v m→dc X (.ret v) (.ret m)
section
variable{S:Sx}{f:Fx}{α β γ δ:Type}{R:Rc→α→β→Prop}{R':Rc→γ→δ→Prop}{n:Snap}
theorem At.imp{T T':PT α}{Q:Res β→St→Prop}(h:At S f T R Q n)(k:∀ Q E s,T Q E s→T' Q E s):At S f T' R Q n:=
 λg d tk os Q' E' P=>k _ _ _ (h g d tk os Q' E' P)
theorem Sd.imp{T T':PT α}{m:M β}(h:Sd S f T R m n)(k:∀ Q E s,T Q E s→T' Q E s):Sd S f T' R m n:=
 λσ Q rel hm=>(h σ Q rel hm).imp k
theorem Sd.no{T:PT α}:Sd S f T R (M.no:M β) n:=λz_ z_ z_ h=>h.elim
theorem At.ret{T:PT α}{σ:St}{Q:Res β→St→Prop}{b:β}(rel:bu S f σ n)(hq:Q (.ok b) σ)
  (h:∀ g d tk os (Q':α→ah→Prop) E',(∀ a tk',R n.X a b→Q' a ⟨n.h,g,d,tk',os⟩)→T Q' E' ⟨n.h,g,d,tk,os⟩):At S f T R Q n:=
 λg d tk os Q' E' P=>h g d tk os Q' E' λa tk' ha=>(P n tk' σ (.refl n) rel).1 b hq a ha
theorem Sd.ret{T:PT α}{b:β}(h:(∃ σ,bu S f σ n)→∀ g d tk os (Q':α→ah→Prop) E',(∀ a tk',R n.X a b→Q' a ⟨n.h,g,d,tk',os⟩)→T Q' E' ⟨n.h,g,d,tk,os⟩):Sd S f T R (M.ret b) n:=
 λσ Q rel hq=>At.ret rel hq (h ⟨σ,rel⟩)
theorem Sd.need{T:PT α}{m:M β}{b:Bool}(h:b=true→Sd S f T R m n):Sd S f T R (M.need b m) n:=
 λσ Q rel hm=>h (h_ hm).1 σ Q rel (h_ hm).2
theorem Sd.iff{T:PT α}{x y:M β}{b:Bool}(h1:b=true→Sd S f T R x n)(h2:b=false→Sd S f T R y n):Sd S f T R (M.iff b x y) n:=λσ Q rel hm=>by
 cases hb:b with
 | true=>subst hb;exact h1 rfl σ Q rel hm
 | false=>subst hb;exact h2 rfl σ Q rel hm
theorem Sd.get{T:PT α}{k:St→M β}(h:∀ σ,bu S f σ n→∀ Q,k σ σ Q→At S f T R Q n):Sd S f T R (M.get k) n:=
 λσ Q rel hm=>h σ rel Q hm
theorem Sd.ex{T:PT α}{p:δ→Prop}{k:δ→M β}(h:∀ a,p a→Sd S f T R (k a) n):Sd S f T R (M.ex p k) n:=
 λσ Q rel ⟨a,ha,hm⟩=>h a ha σ Q rel hm
theorem At.bind{T:PT γ}{U:γ→PT α}{Q₁:Res δ→St→Prop}{Q:Res β→St→Prop}(h:At S f T R' Q₁ n)
  (k:∀ n' σ',dB f.own f.cZ f.cl n n'→bu S f σ' n'→(∀ b,Q₁ (.ok b) σ'→∀ a,R' n'.X a b→At S f (U a) R Q n')∧(∀ t,Q₁ (.exc t) σ'→Q (.exc t) σ')):
  At S f (λQ E s=>T (λa s'=>U a Q E s') E s) R Q n:=by
 intro g d tk os Q' E' P
 refine h g d tk os _ E' λn₁ tk₁ σ₁ j7 i8=>⟨λb hb a ha=>?_,λt ht e fl=>(P n₁ tk₁ σ₁ j7 i8).2 t ((k n₁ σ₁ j7 i8).2 t ht) e fl⟩
 refine(k n₁ σ₁ j7 i8).1 b hb a ha g d tk₁ os Q' E' λn₂ tk₂ σ₂ oj gV=>?_
 have:=P n₂ tk₂ σ₂ (j7.trans oj) gV
 exact⟨this.1,λt ht e fl=>this.2 t ht e (fl.older j7.live)⟩
theorem Sd.bind{T:PT γ}{U:γ→PT α}{m:M δ}{k:δ→M β}(h:Sd S f T R' m n)(hk:∀ n',dB f.own f.cZ f.cl n n'→∀ a b,R' n'.X a b→Sd S f (U a) R (k b) n'):
  Sd S f (λQ E s=>T (λa s'=>U a Q E s') E s) R (m.andThen k) n:=
 λσ Q rel hm=>At.bind (h σ _ rel hm) λn' σ' ev rel'=>⟨λb hb a ha=>hk n' ev a b ha σ' Q rel' hb,λt ht=>ht⟩
theorem Sd.post{T:PT γ}{m:M δ}{k:δ→β}{U:γ→α}(h:Sd S f T R' m n)(hk:∀ n',dB f.own f.cZ f.cl n n'→∀ a b,R' n'.X a b→R n'.X (U a) (k b)):
  Sd S f (λQ E s=>T (λa s'=>Q (U a) s') E s) R (m.andThen λb=>M.ret (k b)) n:=by
 refine Sd.bind (U:=λa Q E s=>Q (U a) s) h λn' ev a b hab=>?_
 exact Sd.ret λz_ g d tk os Q' E' H=>H _ _ (hk n' ev a b hab)
theorem bu.dU{σ:St}(r:bu S f σ n):∀ b o,S.h₀.get? b=some o→n.h.get? b=some o:=λb o e=>r.inv.sub b o (r.inv.base b o e)
end
structure ao(S:Sx)(l:Nat)(fv:MV)(args:List MV)(kw:List (Str×MV))(F:br)(Q:Res MV→br→Prop):Prop where
 run:∀ (A:bC) (fr:List Env) (n:Snap) (v:af) (vs:List af) (kvs:List (Str×af)) (g:Array GenState) (d:Drawn) (tk:Nat) (os:cT) (R':j6→ah→Prop),
  CO A fr l→A.handled=none→CRel S fr F (F.map (·.1)) n→aW n.X v fv→bY n.X vs args→dQ n.X kvs kw→
  (∀ n' tk' F',dB [] (fr.filterMap (·.frame)) [] n n'→CRel S fr F' (F'.map (·.1)) n'→
   (∀ m,Q (.ok m) F'→∀ a,aW n'.X a m→R' (.ok (.ret a)) ⟨n'.h,g,d,tk',os⟩)∧
   (∀ t,Q (.exc t) F'→∀ e,eN none t n.h e n'→R' (.error (.ref e)) ⟨n'.h,g,d,tk',os⟩))→
  dF (model S.prog S.w) A (.call v ⟨vs,kvs⟩) R' ⟨n.h,g,d,tk,os⟩
structure gE(S:Sx)(f:Fx)(st:dO)(σ:St)(Q:Res cj→St→Prop):Prop where
 run:∀ n,bu S f σ n→At S f (λQ E s=>aA (model S.prog S.w) f.A (exec st f.env) Q E s) dc Q n
structure sH(S:Sx)(f:Fx)(e:aJ)(σ:St)(Q:Res MV→St→Prop):Prop where
 run:∀ n,bu S f σ n→At S f (λQ E s=>aA (model S.prog S.w) f.A (eval e f.env) Q E s) RV Q n
noncomputable def lg{α:Type}(v:MV)(k:PV→α)(e:α):α:=MV.casesOn (motive_1:=λz_=>α) v k (λz_=>e) (λz_=>e)
noncomputable def iK{α:Type}(v:MV)(k:Nat→α)(e:α):α:=MV.casesOn (motive_1:=λz_=>α) v (λz_=>e) k (λz_=>e)
noncomputable def E2{α:Type}(v:MV)(k:List MV→α)(e:α):α:=MV.casesOn (motive_1:=λz_=>α) v (λz_=>e) (λz_=>e) k
noncomputable def zA{α:Type}(p:PV)(k:α)(e:α):α:=PV.casesOn (motive_1:=λz_=>α) p k (λz_ z_=>e) (λz_ z_=>e) (λz_ z_=>e) (λz_=>e) (λz_=>e) (λz_=>e) (λz_=>e) (λz_ z_ z_=>e) (λz_=>e) (λz_=>e)
noncomputable def wR{α:Type}(v:MV)(k:α)(e:α):α:=lg v (λp=>zA p k e) e
noncomputable def JE{α:Type}(p:PV)(k:Bool→Bool→α)(e:α):α:=PV.casesOn (motive_1:=λz_=>α) p e k (λz_ z_=>e) (λz_ z_=>e) (λz_=>e) (λz_=>e) (λz_=>e) (λz_=>e) (λz_ z_ z_=>e) (λz_=>e) (λz_=>e)
noncomputable def wQ{α:Type}(v:MV)(k:Bool→Bool→α)(e:α):α:=lg v (λp=>JE p k e) e
noncomputable def F6{α:Type}(p:PV)(k:Bool→Int→α)(e:α):α:=PV.casesOn (motive_1:=λz_=>α) p e (λz_ z_=>e) k (λz_ z_=>e) (λz_=>e) (λz_=>e) (λz_=>e) (λz_=>e) (λz_ z_ z_=>e) (λz_=>e) (λz_=>e)
noncomputable def f6{α:Type}(v:MV)(k:Bool→Int→α)(e:α):α:=lg v (λp=>F6 p k e) e
noncomputable def Bh{α:Type}(p:PV)(k:Bool→List UInt8→α)(e:α):α:=PV.casesOn (motive_1:=λz_=>α) p e (λz_ z_=>e) (λz_ z_=>e) k (λz_=>e) (λz_=>e) (λz_=>e) (λz_=>e) (λz_ z_ z_=>e) (λz_=>e) (λz_=>e)
noncomputable def fP{α:Type}(v:MV)(k:Bool→List UInt8→α)(e:α):α:=lg v (λp=>Bh p k e) e
noncomputable def NG{α:Type}(p:PV)(k:Str→α)(e:α):α:=PV.casesOn (motive_1:=λz_=>α) p e (λz_ z_=>e) (λz_ z_=>e) (λz_ z_=>e) k (λz_=>e) (λz_=>e) (λz_=>e) (λz_ z_ z_=>e) (λz_=>e) (λz_=>e)
noncomputable def tD{α:Type}(v:MV)(k:Str→α)(e:α):α:=lg v (λp=>NG p k e) e
noncomputable def NH{α:Type}(p:PV)(k:List PV→α)(e:α):α:=PV.casesOn (motive_1:=λz_=>α) p e (λz_ z_=>e) (λz_ z_=>e) (λz_ z_=>e) (λz_=>e) k (λz_=>e) (λz_=>e) (λz_ z_ z_=>e) (λz_=>e) (λz_=>e)
noncomputable def vA{α:Type}(v:MV)(k:List PV→α)(e:α):α:=lg v (λp=>NH p k e) e
noncomputable def JF{α:Type}(p:PV)(k:List PV→α)(e:α):α:=PV.casesOn (motive_1:=λz_=>α) p e (λz_ z_=>e) (λz_ z_=>e) (λz_ z_=>e) (λz_=>e) (λz_=>e) k (λz_=>e) (λz_ z_ z_=>e) (λz_=>e) (λz_=>e)
noncomputable def gG{α:Type}(v:MV)(k:List PV→α)(e:α):α:=lg v (λp=>JF p k e) e
noncomputable def TF{α:Type}(p:PV)(k:List UInt8→α)(e:α):α:=PV.casesOn (motive_1:=λz_=>α) p e (λz_ z_=>e) (λz_ z_=>e) (λz_ z_=>e) (λz_=>e) (λz_=>e) (λz_=>e) k (λz_ z_ z_=>e) (λz_=>e) (λz_=>e)
noncomputable def Hy{α:Type}(v:MV)(k:List UInt8→α)(e:α):α:=lg v (λp=>TF p k e) e
noncomputable def QD{α:Type}(p:PV)(k:Option au→au→List (Str×PV)→α)(e:α):α:=PV.casesOn (motive_1:=λz_=>α) p e (λz_ z_=>e) (λz_ z_=>e) (λz_ z_=>e) (λz_=>e) (λz_=>e) (λz_=>e) (λz_=>e) k (λz_=>e) (λz_=>e)
noncomputable def Cd{α:Type}(v:MV)(k:Option au→au→List (Str×PV)→α)(e:α):α:=lg v (λp=>QD p k e) e
noncomputable def RI{α:Type}(p:PV)(k:af→α)(e:α):α:=PV.casesOn (motive_1:=λz_=>α) p e (λz_ z_=>e) (λz_ z_=>e) (λz_ z_=>e) (λz_=>e) (λz_=>e) (λz_=>e) (λz_=>e) (λz_ z_ z_=>e) k (λz_=>e)
noncomputable def E3{α:Type}(v:MV)(k:af→α)(e:α):α:=lg v (λp=>RI p k e) e
noncomputable def QC{α:Type}(p:PV)(k:List UInt8→α)(e:α):α:=PV.casesOn (motive_1:=λz_=>α) p e (λz_ z_=>e) (λz_ z_=>e) (λz_ z_=>e) (λz_=>e) (λz_=>e) (λz_=>e) (λz_=>e) (λz_ z_ z_=>e) (λz_=>e) k
noncomputable def Jj{α:Type}(v:MV)(k:List UInt8→α)(e:α):α:=lg v (λp=>QC p k e) e
noncomputable def u_{α:Type}(o:eg)(k:au→List (Str×MV)→α)(e:α):α:=eg.casesOn (motive:=λz_=>α) o k (λz_=>e) (λz_=>e) (λz_=>e) (λz_=>e) (λz_ z_=>e) (λz_=>e) (λz_ z_=>e) (λz_=>e)
noncomputable def pF{α:Type}(o:eg)(k:List PV→α)(e:α):α:=eg.casesOn (motive:=λz_=>α) o (λz_ z_=>e) k (λz_=>e) (λz_=>e) (λz_=>e) (λz_ z_=>e) (λz_=>e) (λz_ z_=>e) (λz_=>e)
noncomputable def qs{α:Type}(o:eg)(k:List (List PV)→α)(e:α):α:=eg.casesOn (motive:=λz_=>α) o (λz_ z_=>e) (λz_=>e) k (λz_=>e) (λz_=>e) (λz_ z_=>e) (λz_=>e) (λz_ z_=>e) (λz_=>e)
noncomputable def L7{α:Type}(o:eg)(k:List UInt8→α)(e:α):α:=eg.casesOn (motive:=λz_=>α) o (λz_ z_=>e) (λz_=>e) (λz_=>e) k (λz_=>e) (λz_ z_=>e) (λz_=>e) (λz_ z_=>e) (λz_=>e)
noncomputable def Aq{α:Type}(o:eg)(k:List (Str×PV)→α)(e:α):α:=eg.casesOn (motive:=λz_=>α) o (λz_ z_=>e) (λz_=>e) (λz_=>e) (λz_=>e) k (λz_ z_=>e) (λz_=>e) (λz_ z_=>e) (λz_=>e)
noncomputable def Ao{α:Type}(o:eg)(k:Bool→Nat→α)(e:α):α:=eg.casesOn (motive:=λz_=>α) o (λz_ z_=>e) (λz_=>e) (λz_=>e) (λz_=>e) (λz_=>e) k (λz_=>e) (λz_ z_=>e) (λz_=>e)
noncomputable def An{α:Type}(o:eg)(k:List (List UInt8×PV)→α)(e:α):α:=eg.casesOn (motive:=λz_=>α) o (λz_ z_=>e) (λz_=>e) (λz_=>e) (λz_=>e) (λz_=>e) (λz_ z_=>e) k (λz_ z_=>e) (λz_=>e)
noncomputable def I3{α:Type}(o:eg)(k:Nat→Nat→α)(e:α):α:=eg.casesOn (motive:=λz_=>α) o (λz_ z_=>e) (λz_=>e) (λz_=>e) (λz_=>e) (λz_=>e) (λz_ z_=>e) (λz_=>e) k (λz_=>e)
noncomputable def Ae{α:Type}(x:aJ)(k:UnaryOp→aJ→Pos→α)(e:α):α:=gz (motive_1:=λz_=>α) x (λz_ z_ z_=>e) (λz_ z_ z_=>e) (λz_ z_ z_ z_=>e) k (λz_ z_ z_ z_=>e) (λz_ z_ z_ z_=>e) (λz_ z_ z_=>e) (λz_ z_ z_=>e) (λz_ z_ z_ z_=>e) (λz_ z_ z_ z_=>e) (λz_ z_ z_ z_ z_=>e) (λz_ z_ z_ z_=>e) (λz_ z_=>e) (λz_ z_=>e) (λz_ z_=>e) (λz_ z_ z_ z_=>e) (λz_ z_ z_ z_=>e) (λz_ z_ z_ z_=>e) (λz_ z_=>e) (λz_ z_ z_=>e) (λz_ z_ z_=>e) (λz_ z_ z_=>e) (λz_ z_=>e) (λz_ z_=>e) (λz_ z_=>e) (λz_ z_ z_=>e) (λz_ z_ z_ z_=>e)
noncomputable def nJ{α:Type}(x:aJ)(k:Const→Nat→Pos→α)(e:α):α:=gz (motive_1:=λz_=>α) x (λz_ z_ z_=>e) (λz_ z_ z_=>e) (λz_ z_ z_ z_=>e) (λz_ z_ z_=>e) (λz_ z_ z_ z_=>e) (λz_ z_ z_ z_=>e) (λz_ z_ z_=>e) (λz_ z_ z_=>e) (λz_ z_ z_ z_=>e) (λz_ z_ z_ z_=>e) (λz_ z_ z_ z_ z_=>e) (λz_ z_ z_ z_=>e) (λz_ z_=>e) (λz_ z_=>e) (λz_ z_=>e) (λz_ z_ z_ z_=>e) (λz_ z_ z_ z_=>e) (λz_ z_ z_ z_=>e) (λz_ z_=>e) k (λz_ z_ z_=>e) (λz_ z_ z_=>e) (λz_ z_=>e) (λz_ z_=>e) (λz_ z_=>e) (λz_ z_ z_=>e) (λz_ z_ z_ z_=>e)
noncomputable def BP{α:Type}(x:aJ)(k:aJ→Str→Pos→α)(e:α):α:=gz (motive_1:=λz_=>α) x (λz_ z_ z_=>e) (λz_ z_ z_=>e) (λz_ z_ z_ z_=>e) (λz_ z_ z_=>e) (λz_ z_ z_ z_=>e) (λz_ z_ z_ z_=>e) (λz_ z_ z_=>e) (λz_ z_ z_=>e) (λz_ z_ z_ z_=>e) (λz_ z_ z_ z_=>e) (λz_ z_ z_ z_ z_=>e) (λz_ z_ z_ z_=>e) (λz_ z_=>e) (λz_ z_=>e) (λz_ z_=>e) (λz_ z_ z_ z_=>e) (λz_ z_ z_ z_=>e) (λz_ z_ z_ z_=>e) (λz_ z_=>e) (λz_ z_ z_=>e) k (λz_ z_ z_=>e) (λz_ z_=>e) (λz_ z_=>e) (λz_ z_=>e) (λz_ z_ z_=>e) (λz_ z_ z_ z_=>e)
noncomputable def uv{α:Type}(x:aJ)(k:aJ→aJ→Pos→α)(e:α):α:=gz (motive_1:=λz_=>α) x (λz_ z_ z_=>e) (λz_ z_ z_=>e) (λz_ z_ z_ z_=>e) (λz_ z_ z_=>e) (λz_ z_ z_ z_=>e) (λz_ z_ z_ z_=>e) (λz_ z_ z_=>e) (λz_ z_ z_=>e) (λz_ z_ z_ z_=>e) (λz_ z_ z_ z_=>e) (λz_ z_ z_ z_ z_=>e) (λz_ z_ z_ z_=>e) (λz_ z_=>e) (λz_ z_=>e) (λz_ z_=>e) (λz_ z_ z_ z_=>e) (λz_ z_ z_ z_=>e) (λz_ z_ z_ z_=>e) (λz_ z_=>e) (λz_ z_ z_=>e) (λz_ z_ z_=>e) k (λz_ z_=>e) (λz_ z_=>e) (λz_ z_=>e) (λz_ z_ z_=>e) (λz_ z_ z_ z_=>e)
noncomputable def Ad{α:Type}(x:aJ)(k:Str→Pos→α)(e:α):α:=gz (motive_1:=λz_=>α) x (λz_ z_ z_=>e) (λz_ z_ z_=>e) (λz_ z_ z_ z_=>e) (λz_ z_ z_=>e) (λz_ z_ z_ z_=>e) (λz_ z_ z_ z_=>e) (λz_ z_ z_=>e) (λz_ z_ z_=>e) (λz_ z_ z_ z_=>e) (λz_ z_ z_ z_=>e) (λz_ z_ z_ z_ z_=>e) (λz_ z_ z_ z_=>e) (λz_ z_=>e) (λz_ z_=>e) (λz_ z_=>e) (λz_ z_ z_ z_=>e) (λz_ z_ z_ z_=>e) (λz_ z_ z_ z_=>e) (λz_ z_=>e) (λz_ z_ z_=>e) (λz_ z_ z_=>e) (λz_ z_ z_=>e) (λz_ z_=>e) k (λz_ z_=>e) (λz_ z_ z_=>e) (λz_ z_ z_ z_=>e)
noncomputable def Ly{α:Type}(x:aJ)(k:Option aJ→Option aJ→Option aJ→Pos→α)(e:α):α:=gz (motive_1:=λz_=>α) x (λz_ z_ z_=>e) (λz_ z_ z_=>e) (λz_ z_ z_ z_=>e) (λz_ z_ z_=>e) (λz_ z_ z_ z_=>e) (λz_ z_ z_ z_=>e) (λz_ z_ z_=>e) (λz_ z_ z_=>e) (λz_ z_ z_ z_=>e) (λz_ z_ z_ z_=>e) (λz_ z_ z_ z_ z_=>e) (λz_ z_ z_ z_=>e) (λz_ z_=>e) (λz_ z_=>e) (λz_ z_=>e) (λz_ z_ z_ z_=>e) (λz_ z_ z_ z_=>e) (λz_ z_ z_ z_=>e) (λz_ z_=>e) (λz_ z_ z_=>e) (λz_ z_ z_=>e) (λz_ z_ z_=>e) (λz_ z_=>e) (λz_ z_=>e) (λz_ z_=>e) (λz_ z_ z_=>e) k
noncomputable def jg{α β:Type}(l:List β)(k:α)(e:α):α:=fk (motive:=λz_=>α) l k (λz_ z_=>e)
noncomputable def jL{α β:Type}(l:List β)(k:β→List β→α)(e:α):α:=fk (motive:=λz_=>α) l e k
noncomputable def tC{α β:Type}(l:List β)(k:β→α)(e:α):α:=jL l (λa r=>jg r (k a) e) e
noncomputable def aF{α β:Type}(o:Option β)(k:β→α)(e:α):α:=Option.casesOn (motive:=λz_=>α) o e k
noncomputable def Eb{α β γ:Type}(args:List β)(kw:List γ)(k:α)(e:α):α:=jg args (jg kw k e) e
noncomputable def args1{α β γ:Type}(args:List β)(kw:List γ)(k:β→α)(e:α):α:=tC args (λa=>jg kw (k a) e) e
noncomputable def args2{α β γ:Type}(args:List β)(kw:List γ)(k:β→β→α)(e:α):α:=jL args (λa r=>tC r (λb=>jg kw (k a b) e) e) e
noncomputable def qR{α:Type}(v:af)(kr:au→α)(kb:String→α)(kt:String→α)(e:α):α:=Value.casesOn (motive:=λz_=>α) v e e e (λz_=>e) (λz_ z_=>e) (λz_ z_=>e) (λz_ z_=>e) (λz_ z_=>e) kt kb kr
noncomputable def pU{α:Type}(v:aE)(l c g e:α):α:=fF (motive:=λz_=>α) v l c c e g
noncomputable abbrev M.when{α:Type}(b:Bool)(m:M α):M α:=cond b m M.no
noncomputable def intLit{α:Type}(i:Int)(k:Nat→α)(e:Nat→α):α:=Int.casesOn (motive:=λz_=>α) i k e
noncomputable def E1{α:Type}(i:Int)(k:α)(e:α):α:=intLit i (λn=>cond (aX n 1) k e) (λz_=>e)
noncomputable def cInt{α:Type}(c:Const)(k:Int→α)(e:α):α:=match c with | .int i=>k i | _=>e
noncomputable def bL(n:Nat)(l:List Nat):Bool:=bA (motive:=λz_=>Bool) false (λm z_ q=>cond (aX m n) true q) l
noncomputable def rY(l:List Nat):Nat:=bA (motive:=λz_=>Nat) 40 (λn z_ q=>cond (aO q n) (n+1) q) l
noncomputable def M.new(nm:Option Nat)(o:eg):M MV:=λσ Q=>
 match nm with
 | some k=>St.casesOn (motive:=λz_=>Prop) σ λl F d u=>rK (bL k d) False (Q (.ok (.loc k)) ⟨l,(k,o)::F,k::d,u⟩)
 | none=>St.casesOn (motive:=λz_=>Prop) σ λl F d u=>rK (bL (rY d) d) False (Q (.ok (.loc (rY d))) ⟨l,(rY d,o)::F,rY d::d,u⟩)
noncomputable def M.put(n:Nat)(o:eg):M Unit:=λσ Q=>St.casesOn (motive:=λz_=>Prop) σ λl F d u=>Q (.ok ()) ⟨l,jV F n o,d,u⟩
noncomputable def M.obj{α:Type}(n:Nat)(k:eg→M α):M α:=λσ Q=>aF (cN σ.foot n) (λo=>k o σ Q) False
structure LB where
 fields:List Str
 methods:List (Str×au)
 props:List (Str×au)
structure Pg where
 glob:List (Str×PV)
 cls:List (au×LB)
 needs:List (au×List Nat)
 FI:List (Nat×List Nat)
 nm:List (Nat×Nat)
 Rp:List Nat
noncomputable def AW{α:Type}(l:List (Nat×α))(n:Nat):Option α:=bA (motive:=λz_=>Option α) none (λp z_ q=>cond (aX p.1 n) (some p.2) q) l
noncomputable def Pg.K6(P:Pg)(p:Pos):Option Nat:=AW P.nm (p.line*1000+p.col)
noncomputable def Pg.Jd(P:Pg)(p:Pos):Bool:=bL (p.line*1000+p.col) P.Rp
structure Ih where
 ev:aJ→M MV
 qg:aJ→M Bool
 asg:aJ→MV→M Unit
 ex:dO→M cj
 exs:List dO→M cj
noncomputable def truth(v:MV):M Bool:=wQ v (λl b=>M.iff b (M.ret true) (M.ret false)) M.no
noncomputable def aB:Nat:=1048576
noncomputable def lB(i:Int):Bool:=aO i.natAbs 1099511627776
noncomputable def L8(a b:MV):M MV:=
 f6 a (λl x=>f6 b (λl' y=>M.ret (.pv (.int (l&&l') (x+y)))) M.no)
 (fP a (λl x=>fP b (λl' y=>M.need (aO (x++y).length aB) (M.ret (.pv (.bytes (l&&l') (x++y))))) M.no)
 (iK a (λn=>gG b (λys=>M.obj n λo=>pF o (λrev=>M.need (aO (rev.length+ys.length) aB) (M.ret (.pv (.list (rev.reverse++ys))))) M.no) M.no) M.no))
noncomputable def mulM(a b:MV):M MV:=f6 b (λl' y=>
 f6 a (λl x=>M.need (lB x&&lB y) (M.ret (.pv (.int (l&&l') (x*y)))))
 (fP a (λl xs=>tC xs (λx=>M.need (aO y.natAbs aB) (M.ret (.pv (.bytes (l&&l') (aI y.toNat x))))) M.no)
 (gG a (λxs=>tC xs (λx=>M.need (aO y.natAbs aB) (M.ret (.pv (.list (aI y.toNat x))))) M.no) M.no))) M.no
noncomputable def Mi(op:Operator)(a b:MV):M MV:=match op with
 | .Add=>L8 a b
 | .Sub=>f6 a (λl x=>f6 b (λl' y=>M.ret (.pv (.int (l&&l') (x-y)))) M.no) M.no
 | .Mult=>mulM a b
 | .Mod=>f6 a (λl x=>f6 b (λl' y=>M.need (decide (0<y)) (M.ret (.pv (.int (l&&l') (x.fmod y))))) M.no) M.no
 | _=>M.no
noncomputable def oh(e:PV→PV→Option Bool)(a:List PV):List PV→Option Bool:=bA (motive:=λz_=>List PV→Option Bool) (λb=>jg b (some true) (some false))
 (λx z_ q b=>jL b (λy b=>aF (e x y) (λk=>aF (q b) (λk'=>some (k&&k')) none) none) (some false)) a
noncomputable def tZ(e:Option (PV→PV→Option Bool))(p q:PV):Option Bool:=PV.casesOn (motive_1:=λz_=>Option Bool) p (zA q (some true) none) (λz_ a=>JE q (λz_ b=>some (a == b)) none)
 (λz_ a=>F6 q (λz_ b=>some (a == b)) (zA q (some false) none)) (λz_ a=>Bh q (λz_ b=>some (a == b)) (zA q (some false) none)) (λa=>NG q (λb=>some (bT a b)) none)
 (λa=>NH q (λb=>aF e (λe=>oh e a b) none) none)
 (λa=>JF q (λb=>aF e (λe=>cond (aX a.length b.length) (oh e a b) (some false)) none) (zA q (some false) none)) (λz_=>none) (λz_ z_ z_=>none) (λz_=>none) (λz_=>none)
noncomputable def lZ(k:Nat):PV→PV→Option Bool:=Nat.rec (motive:=λz_=>PV→PV→Option Bool) (tZ none) (λz_ q=>tZ (some q)) k
noncomputable abbrev zF(k:Nat)(a b:List PV):Option Bool:=lZ (k+1) (.list a) (.list b)
noncomputable def o5(k:Nat)(x:PV)(ps:List PV):Option Bool:=bA (motive:=λz_=>Option Bool) (some false) (λa z_ q=>aF (lZ k a x) (λp=>aF q (λr=>some (p||r)) none) none) ps
noncomputable def F4(g:Int→Int→Bool)(a b:MV):M MV:=f6 a (λl x=>f6 b (λl' y=>M.ret (.pv (.bool (l&&l') (g x y)))) M.no) M.no
noncomputable def Pw(g:Bool→Bool)(x:PV)(y:PV):M MV:=M.ex (λr=>lZ 60 x y=some r) λr=>M.ret (.pv (.bool false (g r)))
noncomputable def Px(g:Bool→Bool)(p:Nat)(ys:List PV):M MV:=M.obj p λo=>
 pF o (λrev=>M.ex (λr=>zF 60 rev.reverse ys=some r) λr=>M.ret (.pv (.bool false (g r))))
 (qs o (λbz=>jg ys (M.ret (.pv (.bool false (g bz.isEmpty)))) M.no) M.no)
noncomputable def EU(a b:MV):M MV:=lg a (λx=>lg b (λy=>Pw id x y) M.no) M.no
noncomputable def Rj(a b:MV):M MV:=
 f6 a (λl x=>f6 b (λl' y=>M.ret (.pv (.bool (l&&l') (decide (x=y))))) (EU (.pv (.int l x)) b))
 (tD a (λx=>tD b (λy=>M.ret (.pv (.bool true (bT x y)))) (EU (.pv (.str x)) b))
 (fP a (λl x=>fP b (λl' y=>M.ret (.pv (.bool (l&&l') (x == y)))) (EU (.pv (.bytes l x)) b))
 (iK a (λp=>gG b (λys=>Px id p ys) M.no) (EU a b))))
noncomputable def RD(a b:MV):M MV:=
 f6 a (λl x=>f6 b (λl' y=>M.ret (.pv (.bool (l&&l') (!decide (x=y))))) M.no)
 (tD a (λx=>tD b (λy=>M.ret (.pv (.bool true (!bT x y)))) M.no)
 (iK a (λp=>gG b (λys=>Px (!·) p ys) M.no)
 (gG a (λx=>gG b (λy=>Pw (!·) (.list x) (.list y)) M.no)
 (vA a (λx=>vA b (λy=>Pw (!·) (.tup x) (.tup y)) M.no) M.no))))
noncomputable def AN:MV→Bool
 | .pv (.sv _)=>true
 | _=>false
noncomputable def isNone(yes no:Bool)(a:MV):M MV:=wR a (M.ret (.pv (.bool true yes))) (M.when (!AN a) (M.ret (.pv (.bool true no))))
noncomputable def Nl(fs:List (Str×PV))(k:Int→M MV):M MV:=aF (lk fs "number") (λv=>F6 v (λz_ x=>k x) M.no) M.no
noncomputable def JU(t t':Option au):Bool:=aF t (λg=>aF t' (λg'=>aX g g') false) false
noncomputable def JM(a b:MV):M MV:=Cd a (λtag C fs=>Cd b (λtag' C' fs'=>Nl fs λx=>Nl fs' λy=>
 M.need (!decide (x=y)||JU tag tag') (M.ret (.pv (.bool false (decide (x=y)))))) M.no) M.no
noncomputable def RA(a b:MV):M MV:=
 fP b (λl' y=>f6 a (λl x=>M.need (decide (0≤x)&&decide (x<256)) (M.ret (.pv (.bool (l&&l') (y.contains (fX x.toNat)))))) M.no)
 (lg a (λx=>vA b (λys=>M.ex (λr=>o5 60 x ys=some r) λr=>M.ret (.pv (.bool false r)))
  (gG b (λys=>M.ex (λr=>o5 60 x ys=some r) λr=>M.ret (.pv (.bool false r))) M.no)) M.no)
noncomputable def yw(op:pq)(a b:MV):M MV:=match op with
 | .Lt=>F4 (λx y=>decide (x<y)) a b
 | .LtE=>F4 (λx y=>decide (x≤y)) a b
 | .Gt=>F4 (λx y=>decide (y<x)) a b
 | .GtE=>F4 (λx y=>decide (y≤x)) a b
 | .Eq=>Rj a b
 | .NotEq=>RD a b
 | .Is=>wR b (isNone true false a) (JM a b)
 | .IsNot=>wR b (isNone false true a) M.no
 | .In=>RA a b
 | .NotIn=>M.no
section
variable(S:Sx)(f:Fx)(P:Pg)(sc:List (Str×aE))
noncomputable def pull(F:br)(l:List Nat):Option br:=bA (motive:=λz_=>Option br) (some []) (λn z_ q=>aF (cN F n) (λo=>aF q (λq=>some ((n,o)::q)) none) none) l
noncomputable def EA(F:br)(l:List Nat):br:=bA (motive:=λz_=>br) F (λn z_ q=>iF q n) l
noncomputable def kh(ns:List Nat)(m:MV):Bool:=MV.rec (motive_1:=λz_=>Bool) (motive_2:=λz_=>Bool) (λz_=>true) (λn=>bL n ns) (λz_ q=>q) true (λz_ z_ a b=>cond a b false) m
noncomputable def r9(ns:List Nat)(l:List MV):Bool:=MV.rec_1 (motive_1:=λz_=>Bool) (motive_2:=λz_=>Bool) (λz_=>true) (λn=>bL n ns) (λz_ q=>q) true (λz_ z_ a b=>cond a b false) l
noncomputable def iB(ns:List Nat)(l:List (Str×MV)):Bool:=bA (motive:=λz_=>Bool) true (λp z_ q=>cond (kh ns p.2) q false) l
noncomputable def FQ(ns:List Nat)(o:eg):Bool:=eg.casesOn (motive:=λz_=>Bool) o (λz_ fs=>iB ns fs) (λz_=>true) (λz_=>true) (λz_=>true) (λz_=>true) (λz_ z_=>true) (λz_=>true) (λa k=>cond (bL a ns) (bL k ns) false) (λz_=>true)
noncomputable def ig(ns:List Nat)(F:br):Bool:=bA (motive:=λz_=>Bool) true (λp z_ q=>cond (FQ ns p.2) q false) F
noncomputable def newNames(dom:List Nat)(F:br):List Nat:=bA (motive:=λz_=>List Nat) dom (λp z_ q=>cond (bL p.1 q) q (p.1::q)) F
noncomputable def AB(ns dom:List Nat)(F:br):Bool:=bA (motive:=λz_=>Bool) true (λp z_ q=>cond (bL p.1 ns|| !bL p.1 dom) q false) F
noncomputable def M.call(fv:MV)(ns:List Nat)(args:List MV)(kw:List (Str×MV)):M MV:=λσ Q=>St.casesOn (motive:=λz_=>Prop) σ λL G D u=>aF (pull G ns) (λF=>rK (ig ns F&&r9 ns args&&iB ns kw&&kh ns fv&&aO 1 f.lv)
  (ao S (f.lv-1) fv args kw F λr F'=>rK (AB ns D F') (Q r ⟨L,F'++EA G ns,newNames D F',u⟩) False) False) False
noncomputable def M.sure(m:M MV):M MV:=λσ Q=>m σ λr σ'=>Res.casesOn (motive:=λz_=>Prop) r (λv=>rK (AN v) False (Q (.ok v) σ')) λz_=>False
noncomputable def getInst(n:Nat)(C:au)(fs:List (Str×MV))(name:Str):M MV:=aF (AW P.cls C) (λc=>
 aF (lk fs name) (λv=>M.when (c.fields.any (bT name)&& !AN v) (M.ret v))
 (aF (lk c.props name) (λg=>aF (AW P.needs g) (λns=>M.sure (M.call S f (.pv (.sv (.ref g))) ns [.loc n] [])) M.no) M.no)) M.no
noncomputable def getM(o:MV)(name:Str):M MV:=
 Jj o (λt=>M.when (bT name "told") (M.ret (.pv (.bytes false t))))
 (Cd o (λz_ C fs=>aF (AW P.cls C) (λc=>aF (lk fs name) (λv=>M.when (c.fields.any (bT name)&& !AN (.pv v)) (M.ret (.pv v))) M.no) M.no)
 (iK o (λn=>M.obj n λob=>u_ ob (λC fs=>getInst S f P n C fs name) M.no) M.no))
noncomputable def fC(l:List PV):Option (List (List UInt8)):=bA (motive:=λz_=>Option (List (List UInt8))) (some []) (λp z_ q=>Bh p (λz_ b=>aF q (λq=>some (b::q)) none) none) l
noncomputable def allInts(l:List PV):Option (List Int):=bA (motive:=λz_=>Option (List Int)) (some []) (λp z_ q=>F6 p (λz_ b=>aF q (λq=>some (b::q)) none) none) l
noncomputable def Cp:List PV→Nat→Int→M MV
 | [],_,_=>M.no
 | v::r,i,k=>M.iff (decide (k=jG i)) (M.ret (.pv v)) (Cp r (i+1) k)
noncomputable abbrev LH(k:Int)(m z:Nat):Bool:=decide (0≤k)&&d9 k.toNat m&&aO m z
noncomputable def MN(vs:List PV)(l:Bool)(k:Int):M MV:=cond l
 (intLit k (λn=>M.when (aO n 1000) (aF vs[n]? (λv=>M.ret (.pv v)) M.no)) (λz_=>M.no))
 (aF (fC vs) (λbs=>M.need (LH k bs.length 1000) (M.ret (.pv (.bytes false (bs.getD k.toNat [])))))
 (aF (allInts vs) (λis=>M.need (LH k is.length 1000) (M.ret (.pv (.int false (is.getD k.toNat 0)))))
 (M.need (LH k vs.length 1000) (Cp vs 0 k))))
noncomputable def ML(vs:List PV)(l:Bool)(k:Int):M MV:=cond l
 (intLit k (λz_=>M.no) (λn=>M.when (aX n 0) (M.need (aO vs.length aB) (M.ex (λp=>vs.getLast? =some p) λp=>M.ret (.pv p)))))
 (M.need (decide (0≤k)&&aO vs.length aB) (M.ex (λp=>vs[k.toNat]? =some p) λp=>M.ret (.pv p)))
noncomputable def KA(o i:MV):M MV:=
 vA o (λvs=>f6 i (λl k=>MN vs l k) M.no)
 (fP o (λl b=>f6 i (λl' k=>M.need (LH k b.length aB) (M.ret (.pv (.int (l&&l') (jG (b.getD k.toNat 0).toNat))))) M.no)
 (gG o (λvs=>f6 i (λl k=>ML vs l k) M.no)
 (iK o (λn=>tD i (λx=>M.obj n λob=>Aq ob (λfs=>aF (lk fs x) (λv=>M.ret (.pv v)) M.no) M.no) M.no) M.no)))
noncomputable def uQ(lo hi:Option Int)(n:Nat):Bool:=(match lo with | some k=>decide (0≤k) | none=>true)&&(match hi with | some k=>decide (0≤k) | none=>true)&&aO n aB
noncomputable def oR{α:Type}(lo hi:Option Int)(l:List α):List α:=
 let a:=match hi with | some k=>l.take k.toNat | none=>l
 match lo with | some k=>a.drop k.toNat | none=>a
noncomputable def BD(o:MV)(lo hi:Option Int):M MV:=
 fP o (λl b=>M.need (uQ lo hi b.length) (M.ret (.pv (.bytes false (oR lo hi b)))))
 (gG o (λvs=>M.need (uQ lo hi vs.length) (M.ret (.pv (.list (oR lo hi vs)))))
 (Hy o (λb=>M.need (uQ lo hi b.length) (M.ret (.pv (.ba (oR lo hi b))))) M.no))
noncomputable def r8(e:aJ):Bool:=aX e.ctorIdx 16
noncomputable def dJ(es:List aJ):Bool:=bA (motive:=λz_=>Bool) true (λe z_ q=>cond (isStarred e) false q) es
noncomputable def gU(ks:List jQ):Bool:=bA (motive:=λz_=>Bool) true (λk z_ q=>aF k.arg (λz_=>q) false) ks
noncomputable def wK(ih:Ih)(es:List aJ):M (List MV):=bA (motive:=λz_=>M (List MV)) (M.ret []) (λe z_ q=>(ih.ev e).andThen λv=>q.andThen λvs=>M.ret (v::vs)) es
noncomputable def AU(ih:Ih)(ks:List jQ):M (List (Str×MV)):=bA (motive:=λz_=>M (List (Str×MV))) (M.ret []) (λk z_ q=>aF k.arg (λn=>(ih.ev k.value).andThen λv=>q.andThen λvs=>M.ret ((n,v)::vs)) M.no) ks
noncomputable def Hj(ih:Ih)(es:List aJ):M (List MV):=M.when (dJ es) (wK ih es)
noncomputable def I4(ih:Ih)(op:BoolOp)(es:List aJ):M MV:=bA (motive:=λz_=>M MV) M.no (λe r q=>jg r (ih.ev e) ((ih.ev e).andThen λv=>(truth v).andThen λd=>
 BoolOp.casesOn (motive:=λz_=>M MV) op (cond d q (M.ret (.pv (.bool true false)))) (cond d (M.ret (.pv (.bool true true))) q))) es
noncomputable def allM(ih:Ih)(op:BoolOp)(es:List aJ):M Bool:=bA (motive:=λz_=>M Bool) (M.ret (BoolOp.casesOn (motive:=λz_=>Bool) op true false)) (λe r q=>(ih.qg e).andThen λd=>
 BoolOp.casesOn (motive:=λz_=>M Bool) op (cond d q (M.ret false)) (cond d (M.ret true) q)) es
noncomputable def Fb(l:List MV):Option (List PV):=bA (motive:=λz_=>Option (List PV)) (some []) (λm z_ q=>lg m (λp=>aF q (λq=>some (p::q)) none) none) l
noncomputable def qX:List (List UInt8×PV)→List UInt8→PV
 | [],_=>.none
 | (y,v)::r,x=>match y == x with | true=>v | false=>qX r x
inductive Mt where
 | fn (g:au) (ns:List Nat)
 | append (ba:Bool)
 | pop
 | get
 | join
noncomputable def Ja(C:au)(fs:List (Str×MV))(name:Str):M Mt:=aF (AW P.cls C) (λc=>aF (lk c.methods name) (λg=>aF (lk fs name) (λz_=>M.no) (aF (AW P.needs g) (λns=>M.ret (.fn g ns)) M.no)) M.no) M.no
noncomputable def Jb(ov:MV)(name:Str):M Mt:=
 iK ov (λn=>M.obj n λob=>u_ ob (λC fs=>Ja P C fs name)
  (pF ob (λz_=>M.when (bT name "append") (M.ret (.append false)))
  (L7 ob (λz_=>M.when (bT name "append") (M.ret (.append true)))
  (qs ob (λz_=>cond (bT name "append") (M.ret (.append false)) (M.when (bT name "pop") (M.ret .pop)))
  (An ob (λz_=>M.when (bT name "get") (M.ret .get)) M.no)))))
 (fP ov (λz_ z_=>M.when (bT name "join") (M.ret .join)) M.no)
noncomputable def JI(n k:Nat):M MV:=M.obj n λob=>M.obj k λAh=>pF Ah (λr'=>jg r'
  (pF ob (λr=>jg r (λσ Q=>St.casesOn (motive:=λz_=>Prop) σ λl F d u=>rK (aX n k) False (Q (.ok (.pv .none)) ⟨l,jV (iF F k) n (.stack [[]]),d,u⟩)) M.no)
  (qs ob (λbz σ Q=>St.casesOn (motive:=λz_=>Prop) σ λl F d u=>rK (!aX n k&&aO bz.length aB) (Q (.ok (.pv .none)) ⟨l,jV (iF F k) n (.stack ([]::bz)),d,u⟩) False) M.no)) M.no) M.no
noncomputable def Mb(n:Nat)(v:MV):M MV:=
 lg v (λp=>M.obj n λob=>pF ob (λrev=>M.need (aO rev.length aB) ((M.put n (.list (p::rev))).andThen λz_=>M.ret (.pv .none))) M.no)
 (iK v (λk=>JI n k) M.no)
noncomputable def Rf(n:Nat)(v:MV):M MV:=f6 v (λz_ k=>M.obj n λob=>L7 ob (λb=>M.need (decide (0≤k)&&decide (k<256)&&aO b.length aB) ((M.put n (.ba (b++[fX k.toNat]))).andThen λz_=>M.ret (.pv .none))) M.no) M.no
noncomputable def QH(n:Nat):M MV:=M.obj n λob=>qs ob (λrs=>jL rs (λrev bz=>M.need (aO bz.length aB) ((M.put n (.stack bz)).andThen λz_=>M.ret (.pv (.list rev.reverse)))) M.no) M.no
noncomputable def Mh(n:Nat)(v:MV):M MV:=fP v (λz_ k=>M.obj n λob=>An ob (λes=>M.ex (λr=>qX es k=r) λr=>M.ret (.pv r)) M.no) M.no
noncomputable def joinM(v:MV):M MV:=gG v (λvs=>M.ex (λbs=>fC vs=some bs) λbs=>M.need (aO bs.flatten.length aB&&aO bs.length aB) (M.ret (.pv (.bytes false bs.flatten)))) M.no
noncomputable def Oq(mt:Mt)(ov:MV)(args:List MV)(kw:List (Str×MV)):M MV:=match mt with
 | .fn g ns=>M.call S f (.pv (.sv (.ref g))) ns (ov::args) kw
 | .append ba=>iK ov (λn=>args1 args kw (λv=>cond ba (Rf n v) (Mb n v)) M.no) M.no
 | .pop=>iK ov (λn=>Eb args kw (QH n) M.no) M.no
 | .get=>iK ov (λn=>args1 args kw (λv=>Mh n v) M.no) M.no
 | .join=>fP ov (λz_ b=>jg b (args1 args kw (λv=>joinM v) M.no) M.no) M.no
noncomputable def Oh(ov v:MV):M MV:=iK ov (λn=>lg v (λv=>M.obj n λob=>qs ob (λrs=>jL rs (λrev bz=>
 M.need (aO rev.length aB&&aO bz.length aB) ((M.put n (.stack ((v::rev)::bz))).andThen λz_=>M.ret (.pv .none))) M.no) M.no) M.no) M.no
noncomputable def ri(x:Str):Bool:=bT x "__debug__"||bT x "__classdict__"
noncomputable def isLocal(x:Str):Bool:=aF (lk sc x) (λk=>pU k true false false false) false
noncomputable def CM(x y:Str):M MV:=M.when (!(ri x||ri y)) (M.when (isLocal sc x&&isLocal sc y) (M.get λσ=>aF (lk σ.locs x) (λov=>aF (lk σ.locs y) (λv=>Oh ov v) M.no) M.no))
noncomputable def MY(v:MV):M MV:=
 fP v (λl b=>M.need (aO b.length aB) (M.ret (.pv (.int l b.length))))
 (gG v (λns=>M.need (aO ns.length aB) (M.ret (.pv (.int false ns.length))))
 (Hy v (λns=>M.need (aO ns.length aB) (M.ret (.pv (.int false ns.length))))
 (iK v (λn=>M.obj n λob=>
  pF ob (λrev=>M.need (aO rev.length aB) (M.ret (.pv (.int false rev.length))))
  (L7 ob (λb=>M.need (aO b.length aB) (M.ret (.pv (.int false b.length))))
  (Ao ob (λex n=>M.when ex (M.need (aO n aB) (M.ret (.pv (.int false n))))) M.no))) M.no)))
noncomputable def Na(lv:Nat)(a b:MV):M MV:=f6 a (λl x=>f6 b (λl' y=>M.need (aO 1 lv) (M.ret (.pv (.int false (max x y))))) M.no) M.no
noncomputable def Jk(a b:MV):M MV:=gG a (λz_=>E3 b (λw=>qR w (λz_=>M.no) (λz_=>M.no) (λT=>if T="int" then M.ret (.pv (.bool true false)) else M.no) M.no) M.no) M.no
noncomputable def yo(lv:Nat)(id:String)(args:List MV)(kw:List (Str×MV)):M MV:=
 if id="len" then args1 args kw (λv=>MY v) M.no
 else if id="max" then args2 args kw (λa b=>Na lv a b) M.no
 else if id="isinstance" then args2 args kw (λa b=>Jk a b) M.no else M.no
noncomputable def El(lv:Nat)(v:MV):M MV:=
 Hy v (λb=>M.need (aO b.length aB) (M.ret (.pv (.bytes false b))))
 (gG v (λvs=>tC vs (λp=>F6 p (λz_ k=>M.need (aO 1 lv&&decide (0≤k)&&decide (k<256)) (M.ret (.pv (.bytes false [fX k.toNat])))) M.no) M.no)
 (iK v (λn=>M.obj n λob=>L7 ob (λb=>M.need (aO b.length aB) (M.ret (.pv (.bytes false b)))) M.no) M.no))
noncomputable def JW(lv:Nat)(p:Pos)(T:String)(args:List MV)(kw:List (Str×MV)):M MV:=
 if T="bytearray" then Eb args kw (M.new (P.K6 p) (.ba [])) (args1 args kw (λv=>fP v (λz_ b=>M.need (aO b.length aB) (M.ret (.pv (.ba b)))) M.no) M.no)
 else if T="bytes" then args1 args kw (λv=>El lv v) M.no
 else if T="list" then args1 args kw (λv=>gG v (λvs=>M.need (aO vs.length aB) (M.ret (.pv (.list vs)))) M.no) M.no
 else if T="int" then args1 args kw (λv=>f6 v (λl k=>M.ret (.pv (.int l k))) M.no) M.no else M.no
noncomputable def BF(fv:MV)(k:M MV):M MV:=
 E3 fv (λw=>qR w (λa=>aF (AW P.needs a) (λz_=>k) M.no) (λz_=>k) (λz_=>k) M.no)
 (iK fv (λi=>M.obj i λo=>I3 o (λz_ z_=>k) M.no) M.no)
noncomputable def Eo(p:Pos)(fv:MV)(args:List MV)(kw:List (Str×MV)):M MV:=
 E3 fv (λw=>qR w (λa=>aF (AW P.needs a) (λns=>M.call S f fv ns args kw) M.no) (λid=>yo f.lv id args kw) (λT=>JW P f.lv p T args kw) M.no)
 (iK fv (λk=>aF (AW P.FI k) (λns=>M.call S f fv ns args kw) M.no) M.no)
noncomputable def Ew:Const→M MV
 | .none=>M.ret (.pv .none)
 | .bool b=>M.ret (.pv (.bool true b))
 | .int i=>M.ret (.pv (.int true i))
 | .str x=>M.ret (.pv (.str x))
 | .bytes b=>M.ret (.pv (.bytes true b))
 | _=>M.no
noncomputable def lW(e:aJ):Bool:=aX e.ctorIdx 7
noncomputable def k_(ih:Ih)(ops:List pq):MV→List aJ→M MV:=bA (motive:=λz_=>MV→List aJ→M MV) (λz_ z_=>M.no)
 (λop ops q a rs=>jL rs (λr rs=>jg ops (jg rs (M.when (!lW r) ((ih.ev r).andThen λb=>yw op a b)) M.no)
  (jg rs M.no ((ih.ev r).andThen λb=>(yw op a b).andThen λc=>(truth c).andThen λd=>cond d (q b rs) (M.ret (.pv (.bool true false)))))) M.no) ops
noncomputable def zo(x:Str):M MV:=cond (ri x) M.no (aF (lk sc x) (λk=>pU k
  (M.get λσ=>aF (lk σ.locs x) (λv=>M.ret v) M.no) (M.get λσ=>aF (lk σ.locs x) (λv=>M.ret v) M.no) (aF (lk P.glob x) (λv=>M.ret (.pv v)) M.no) M.no) M.no)
noncomputable def notM(v:MV):M MV:=wQ v (λl b=>M.ret (.pv (.bool l (!b)))) M.no
noncomputable def F2(ih:Ih)(o:Option aJ):M (Option Int):=aF o (λe=>(ih.ev e).andThen λv=>f6 v (λz_ k=>M.ret (some k)) M.no) (M.ret none)
noncomputable def Fi(p:Pos)(vs:List MV):M MV:=aF (Fb vs) (λps=>cond (P.Jd p) (M.ret (.pv (.list ps))) (M.new (P.K6 p) (.list ps.reverse))) M.no
noncomputable def Lv(vs:List MV):M MV:=aF (Fb vs) (λps=>M.ret (.pv (.tup ps))) (M.ret (.lX vs))
noncomputable def Ot(e:aJ):M MV:=nJ e (λc z_ z_=>cInt c (λi=>intLit i (λn=>M.ret (.pv (.int true (-(jG n))))) (λz_=>M.no)) M.no) M.no
noncomputable def Oa(ih:Ih)(v i:aJ):M MV:=Ly i (λlo hi st z_=>aF st (λz_=>M.no) ((ih.ev v).andThen λo=>(F2 ih lo).andThen λa=>(F2 ih hi).andThen λb=>BD o a b))
 ((ih.ev v).andThen λo=>(ih.ev i).andThen λk=>KA o k)
noncomputable def KI:UnaryOp→Bool
 | .USub=>true
 | _=>false
noncomputable def lastOf{α:Type}(o:aJ)(k:Str→α)(e:α):α:=uv o (λa i z_=>Ad a (λx z_=>Ae i (λop c z_=>cond (KI op) (nJ c (λc z_ z_=>cInt c (λi=>E1 i (k x) e) e) e) e) e) e) e
noncomputable def Jp(ih:Ih)(o:aJ)(name:Str)(ap:Pos)(args:List aJ)(ks:List jQ)(p:Pos):M MV:=
 M.when (!r8 o) (M.when (aX ap.endLine p.line) (M.when (!aO 29 (args.length+ks.length)) (M.when (dJ args) (M.when (gU ks)
  ((ih.ev o).andThen λov=>(Jb P ov name).andThen λmt=>(wK ih args).andThen λvs=>(AU ih ks).andThen λkv=>Oq S f mt ov vs kv)))))
noncomputable def I6(ih:Ih)(g:aJ)(args:List aJ)(ks:List jQ)(p:Pos):M MV:=BP g
 (λo name ap=>lastOf o (λx=>args1 args ks (λy=>Ad y (λy z_=>M.when (bT name "append") (M.when (aX ap.endLine p.line) (CM sc x y))) M.no) M.no) (Jp S f P ih o name ap args ks p))
 (M.when (dJ args) (M.when (gU ks) ((ih.ev g).andThen λfv=>BF P fv ((wK ih args).andThen λvs=>(AU ih ks).andThen λkv=>Eo S f P p fv vs kv))))
noncomputable def Gy(ih:Ih)(e:aJ):M MV:=gz (motive_1:=λz_=>M MV) e (λop vs z_=>I4 ih op vs)
  (λz_ z_ z_=>M.no)
  (λl op r z_=>(ih.ev l).andThen λa=>(ih.ev r).andThen λb=>Mi op a b)
  (λop e z_=>UnaryOp.casesOn (motive:=λz_=>M MV) op M.no ((ih.ev e).andThen notM) M.no (Ot e))
  (λz_ z_ z_ z_=>M.no)
  (λt b o z_=>(ih.qg t).andThen λd=>cond d (ih.ev b) (ih.ev o))
  (λa b p=>λσ Q=>sH S f (.Dict a b p) σ Q)
  (λz_ z_ z_=>M.no)
  (λa b c p=>λσ Q=>sH S f (.ListComp a b c p) σ Q)
  (λz_ z_ z_ z_=>M.no)
  (λa b c d p=>λσ Q=>sH S f (.DictComp a b c d p) σ Q)
  (λz_ z_ z_ z_=>M.no)
  (λz_ z_=>M.no)
  (λz_ z_=>M.no)
  (λz_ z_=>M.no)
  (λl ops rs z_=>(ih.ev l).andThen λa=>k_ ih ops a rs)
  (λg args ks p=>I6 S f P sc ih g args ks p)
  (λz_ z_ z_ z_=>M.no)
  (λz_ z_=>M.no)
  (λc z_ z_=>Ew c)
  (λv name z_=>M.when (!r8 v) ((ih.ev v).andThen λo=>getM S f P o name))
  (λv i z_=>Oa ih v i)
  (λz_ z_=>M.no)
  (λx z_=>zo P sc x)
  (λes p=>(Hj ih es).andThen λvs=>M.when (aO vs.length 1000) (Fi P p vs))
  (λes z_ z_=>(Hj ih es).andThen λvs=>M.when (aO vs.length 1000) (Lv vs))
  (λz_ z_ z_ z_=>M.no)
noncomputable def CG(ih:Ih)(e:aJ):M Bool:=gz (motive_1:=λz_=>M Bool) e (λop vs z_=>allM ih op vs)
  (λz_ z_ z_=>(ih.ev e).andThen truth)
  (λz_ z_ z_ z_=>(ih.ev e).andThen truth)
  (λop c p=>UnaryOp.casesOn (motive:=λz_=>M Bool) op M.no ((ih.qg c).andThen λd=>M.ret (!d)) M.no M.no)
  (λz_ z_ z_ z_=>(ih.ev e).andThen truth)
  (λt b o z_=>(ih.qg t).andThen λd=>cond d (ih.qg b) (ih.qg o))
  (λz_ z_ z_=>(ih.ev e).andThen truth)
  (λz_ z_ z_=>(ih.ev e).andThen truth)
  (λz_ z_ z_ z_=>(ih.ev e).andThen truth)
  (λz_ z_ z_ z_=>(ih.ev e).andThen truth)
  (λz_ z_ z_ z_ z_=>(ih.ev e).andThen truth)
  (λz_ z_ z_ z_=>(ih.ev e).andThen truth)
  (λz_ z_=>(ih.ev e).andThen truth)
  (λz_ z_=>(ih.ev e).andThen truth)
  (λz_ z_=>(ih.ev e).andThen truth)
  (λl ops rs z_=>(ih.ev l).andThen λa=>(k_ ih ops a rs).andThen truth)
  (λz_ z_ z_ z_=>(ih.ev e).andThen truth)
  (λz_ z_ z_ z_=>(ih.ev e).andThen truth)
  (λz_ z_=>(ih.ev e).andThen truth)
  (λz_ z_ z_=>(ih.ev e).andThen truth)
  (λz_ z_ z_=>(ih.ev e).andThen truth)
  (λz_ z_ z_=>(ih.ev e).andThen truth)
  (λz_ z_=>(ih.ev e).andThen truth)
  (λz_ z_=>(ih.ev e).andThen truth)
  (λz_ z_=>(ih.ev e).andThen truth)
  (λz_ z_ z_=>(ih.ev e).andThen truth)
  (λz_ z_ z_ z_=>(ih.ev e).andThen truth)
noncomputable def p_(es:List aJ):Bool:=bA (motive:=λz_=>Bool) true (λe z_ q=>cond (isStarred e) false q) es
noncomputable def G0(ih:Ih)(ts:List aJ):List MV→M Unit:=bA (motive:=λz_=>List MV→M Unit) (λvs=>jg vs (M.ret ()) M.no)
 (λt z_ q vs=>jL vs (λv vs=>M.when (!isStarred t) ((ih.asg t v).andThen λz_=>q vs)) M.no) ts
noncomputable def setM(ov:MV)(name:Str)(v:MV):M Unit:=iK ov (λn=>M.obj n λob=>u_ ob (λC fs=>aF (AW P.cls C) (λc=>
 M.when (c.fields.any (bT name)) (M.when (aO fs.length 500) (M.put n (.inst C (Mine.put fs name v))))) M.no) M.no) M.no
noncomputable def CA(ov iv v:MV):M Unit:=iK ov (λn=>lg v (λv=>
 tD iv (λx=>M.obj n λob=>Aq ob (λfs=>aF (lk fs x) (λz_=>M.need (aO fs.length 500) (M.put n (.ja (Mine.put fs x v)))) M.no) M.no)
 (f6 iv (λz_ k=>M.obj n λob=>Ao ob (λz_ m=>M.need (aO m aB) (M.put n (.fZ false (m+1)))) M.no) M.no)) M.no) M.no
noncomputable def I8(x:Str)(v:MV):M Unit:=λσ Q=>St.casesOn (motive:=λz_=>Prop) σ λl F d u=>rK (u.any (bT x)) (Q (.ok ()) ⟨Mine.put l x v,F,d,u.filter λy=> !bT x y⟩) False
noncomputable def QZ(ih:Ih)(es:List aJ)(v:MV):M Unit:=
 vA v (λvs=>M.when (aO 1 f.lv&&p_ es&&aX es.length vs.length) (G0 ih es (vs.map .pv)))
 (E2 v (λvs=>M.when (aO 1 f.lv&&p_ es&&aX es.length vs.length) (G0 ih es vs)) M.no)
noncomputable def lY(e:aJ):Bool:= !aX e.ctorIdx 26
noncomputable def CE(ih:Ih)(t:aJ)(v:MV):M Unit:=gz (motive_1:=λz_=>M Unit) t (λz_ z_ z_=>M.no)
  (λz_ z_ z_=>M.no)
  (λz_ z_ z_ z_=>M.no)
  (λz_ z_ z_=>M.no)
  (λz_ z_ z_ z_=>M.no)
  (λz_ z_ z_ z_=>M.no)
  (λz_ z_ z_=>M.no)
  (λz_ z_ z_=>M.no)
  (λz_ z_ z_ z_=>M.no)
  (λz_ z_ z_ z_=>M.no)
  (λz_ z_ z_ z_ z_=>M.no)
  (λz_ z_ z_ z_=>M.no)
  (λz_ z_=>M.no)
  (λz_ z_=>M.no)
  (λz_ z_=>M.no)
  (λz_ z_ z_ z_=>M.no)
  (λz_ z_ z_ z_=>M.no)
  (λz_ z_ z_ z_=>M.no)
  (λz_ z_=>M.no)
  (λz_ z_ z_=>M.no)
  (λo name z_=>(ih.ev o).andThen λov=>setM P ov name v)
  (λo i z_=>M.when (lY i) ((ih.ev o).andThen λov=>(ih.ev i).andThen λiv=>CA ov iv v))
  (λz_ z_=>M.no)
  (λx z_=>aF (lk sc x) (λk=>fF (motive:=λz_=>M Unit) k (λσ Q=>St.casesOn (motive:=λz_=>Prop) σ λl F d u=>Q (.ok ()) ⟨Mine.put l x v,F,d,u⟩) (I8 x v) M.no M.no M.no) M.no)
  (λz_ z_=>M.no)
  (λes z_ z_=>QZ f ih es v)
  (λz_ z_ z_ z_=>M.no)
noncomputable def pT(e:aJ):Bool:= !(aO 8 e.ctorIdx&&aO e.ctorIdx 10)
noncomputable def KH(e:aJ):Bool:=aX e.ctorIdx 25
noncomputable def plainT(t e:aJ):Bool:=gz (motive_1:=λz_=>Bool) t (λz_ z_ z_=>false)
  (λz_ z_ z_=>false)
  (λz_ z_ z_ z_=>false)
  (λz_ z_ z_=>false)
  (λz_ z_ z_ z_=>false)
  (λz_ z_ z_ z_=>false)
  (λz_ z_ z_=>false)
  (λz_ z_ z_=>false)
  (λz_ z_ z_ z_=>false)
  (λz_ z_ z_ z_=>false)
  (λz_ z_ z_ z_ z_=>false)
  (λz_ z_ z_ z_=>false)
  (λz_ z_=>false)
  (λz_ z_=>false)
  (λz_ z_=>false)
  (λz_ z_ z_ z_=>false)
  (λz_ z_ z_ z_=>false)
  (λz_ z_ z_ z_=>false)
  (λz_ z_=>false)
  (λz_ z_ z_=>false)
  (λz_ z_ z_=>true)
  (λz_ z_ z_=>true)
  (λz_ z_=>false)
  (λz_ z_=>pT e)
  (λz_ z_=>false)
  (λz_ z_ z_=> !KH e)
  (λz_ z_ z_ z_=>false)
noncomputable def NQ(p:Pos)(v:MV):M MV:=cond (P.Jd p) (iK v (λn=>M.obj n λo=>pF o (λrev σ Q=>St.casesOn (motive:=λz_=>Prop) σ λl F d u=>Q (.ok (.pv (.list rev.reverse))) ⟨l,iF F n,d,u⟩) M.no) (M.ret v)) (M.ret v)
noncomputable def GH(d:List Nat)(Q:Res cj→St→Prop)(σ:St):Prop:=St.casesOn (motive:=λz_=>Prop) σ λL F D u=>cond (aX D.length d.length) (Q (.ok .next) ⟨L,F,D,u⟩) (aF (pull F d) (λG=>cond (ig d G&&iB d L) (Q (.ok .next) ⟨L,G,d,u⟩) (Q (.ok .next) ⟨L,F,D,u⟩)) (Q (.ok .next) ⟨L,F,D,u⟩))
noncomputable def Gz(ih:Ih)(st:dO):M cj:=Stmt.casesOn (motive_2:=λz_=>M cj) st (λa b c d e g h i j p=>λσ Q=>gE S f (.FunctionDef a b c d e g h i j p) σ Q)
  (λz_ z_ z_ z_ z_ z_ z_ z_ z_ z_=>M.no)
  (λz_ z_ z_ z_ z_ z_ z_ z_ z_ z_ z_=>M.no)
  (λo p=>aF o (λe=>(ih.ev e).andThen λv=>(NQ P p v).andThen λv=>M.ret (.ret v)) (M.ret (.ret (.pv .none))))
  (λz_ z_=>M.no)
  (λts e p=>tC ts (λt=>cond (plainT t e) ((ih.ev e).andThen λv=>(ih.asg t v).andThen λz_=>M.ret .next) (λσ Q=>gE S f (.Assign ts e p) σ Q)) (λσ Q=>gE S f (.Assign ts e p) σ Q))
  (λz_ z_ z_ z_ z_ z_ z_=>M.no)
  (λz_ z_ z_ z_=>M.no)
  (λz_ z_ z_ z_ z_=>M.no)
  (λa b c d p=>λσ Q=>gE S f (.For a b c d p) σ Q)
  (λz_ z_ z_ z_ z_=>M.no)
  (λa b c p=>λσ Q=>gE S f (.While a b c p) σ Q)
  (λt b o z_=>(ih.qg t).andThen λd=>cond d (ih.exs b) (ih.exs o))
  (λz_ z_ z_=>M.no)
  (λz_ z_ z_=>M.no)
  (λz_ z_ z_=>M.no)
  (λa b p=>λσ Q=>gE S f (.Raise a b p) σ Q)
  (λa b c d p=>λσ Q=>gE S f (.Try a b c d p) σ Q)
  (λz_ z_ z_ z_ z_=>M.no)
  (λz_ z_ z_=>M.no)
  (λz_ z_=>M.no)
  (λz_ z_ z_ z_=>M.no)
  (λz_ z_=>M.no)
  (λz_ z_=>M.no)
  (λe z_=>M.when (pT e) (λσ Q=>ih.ev e σ λr σ'=>Res.casesOn (motive:=λz_=>Prop) r (λz_=>GH σ.dom Q σ') λt=>Q (.exc t) σ'))
  (λz_=>M.ret .next)
  (λz_=>M.no)
  (λz_=>M.ret .cont)
noncomputable def EP(fl:cj)(k:M cj):M cj:=cj.casesOn (motive:=λz_=>M cj) fl k (M.ret .cont) (M.ret .brk) (λv=>M.ret (.ret v))
noncomputable def CF(ih:Ih)(ss:List dO):M cj:=fk (motive:=λz_=>M cj) ss (M.ret .next) (λs r=>(ih.ex s).andThen λfl=>EP fl (ih.exs r))
noncomputable def GA(ih:Ih):Ih:=⟨Gy S f P sc ih,CG ih,CE f P sc ih,Gz S f P ih,CF ih⟩
noncomputable def Nh:Ih:=⟨λz_=>M.no,λz_=>M.no,λz_ z_=>M.no,λz_=>M.no,λz_=>M.no⟩
noncomputable def oq(n:Nat):Ih:=Nat.rec (motive:=λz_=>Ih) Nh (λz_ q=>GA S f P sc q) n
end
noncomputable abbrev dM{α:Type}(S:Sx)(f:Fx)(t:Sem α):PT α:=λQ E s=>wpAny (model S.prog S.w) f.A t Q E s
noncomputable abbrev WP{α:Type}(S:Sx)(f:Fx)(t:Sem α):PT α:=λQ E s=>aA (model S.prog S.w) f.A t Q E s
theorem Sd.lift{S:Sx}{f:Fx}{α β:Type}{R:Rc→α→β→Prop}{n:Snap}{t:Sem α}{m:M β}(h:Sd S f (dM S f t) R m n):Sd S f (WP S f t) R m n:=h.imp λQ E s=>bS
section
variable{X:Rc}{v:af}
theorem nU{p:PV}(h:aW X v (.pv p)):cy X.P X.G v p:=h.inv
theorem vBool{l b:Bool}(h:aW X v (.pv (.bool l b))):v= .bool b:=(nU h).inv
theorem vInt{l:Bool}{i:Int}(h:aW X v (.pv (.int l i))):∃ t,v= .int i t:=(nU h).inv
theorem BJ{l:Bool}{b:List UInt8}(h:aW X v (.pv (.bytes l b))):∃ t,v= .bytes b.toArray t:=(nU h).inv
theorem vStr{x:Str}(h:aW X v (.pv (.str x))):∃ t,v= .str x t:=(nU h).inv
theorem GQ(h:aW X v (.pv .none)):v= .none:=(nU h).inv
theorem OU{w:af}(h:aW X v (.pv (.sv w))):v=w:=(nU h).inv
theorem ur{k:Nat}(h:aW X v (.loc k)):v= .ref (X.θ k)∧k ∈ X.dom:=h.inv
inductive ye(X:Rc)(h:b9)(n:Nat)(C:au)(fs:List (Str×MV)):Prop
 | mk {d:au}{es:List dD}{k:Nat} (g:h.get? (X.θ n)=some (instObj C d)) (o:X.own (X.θ n)=some n) (g2:h.get? d=some (gR es k)) (o2:X.own d=some n) (r:fW X es fs):ye X h n C fs
inductive D7(X:Rc)(h:b9)(n:Nat)(rev:List PV):Prop
 | mk {its:List af}{k:Nat} (g:h.get? (X.θ n)=some (fh its k)) (o:X.own (X.θ n)=some n) (r:bQ X.P X.G its.reverse rev):D7 X h n rev
inductive Al(X:Rc)(h:b9)(n:Nat)(bz:List (List PV)):Prop
 | mk {as:List au}{k:Nat} (g:h.get? (X.θ n)=some (fh (as.reverse.map .ref) k)) (o:X.own (X.θ n)=some n) (nd:(X.θ n::as).Nodup) (st:rV X h n as bz):Al X h n bz
inductive yd{κ:Type}[DecidableEq κ]{prog:cP}{w:cE}(K:PySem.KeyKind prog w κ)(X:Rc)(h:b9)(n:Nat)(fs:List (κ×PV)):Prop
 | mk {kvs:List (κ×af)} (g:h.DictOf K (X.θ n) kvs) (o:X.own (X.θ n)=some n) (r:rC X.P X.G kvs fs):yd K X h n fs
inductive Ak(S:Sx)(X:Rc)(h:b9)(n:Nat)(ex:Bool)(m:Nat):Prop
 | mk {kvs:List (Int×af)} (g:h.DictOf (intKind S.prog S.w) (X.θ n) kvs) (o:X.own (X.θ n)=some n) (r:kvs.length≤m) (x:ex=true→kvs.length=m):Ak S X h n ex m
noncomputable def O4(S:Sx)(X:Rc)(h:b9)(n:Nat):eg→Prop
 | .inst C fs=>ye X h n C fs
 | .list rev=>D7 X h n rev
 | .stack bz=>Al X h n bz
 | .ba b=>h.get? (X.θ n)=some (J5 b)∧X.own (X.θ n)=some n
 | .ja fs=>yd (strKind S.prog S.w) X h n fs
 | .fZ ex m=>Ak S X h n ex m
 | .iT es=>yd (bytesKind S.prog S.w) X h n es
 | .clos a k=>qU S X (X.θ n) a k
 | .tab made=>∃ ps,h.get? (X.θ n)=some (tabObj ps)∧X.own (X.θ n)=some n∧yf S X ps made∧X.θ n=S.fN.tab
theorem gQ.inv{S:Sx}{h:b9}{n:Nat}{o:eg}(r:gQ S X h n o):O4 S X h n o:=by
 cases r with
 | inst g o d o' r=>exact⟨g,o,d,o',r⟩
 | list g o r=>exact⟨g,o,r⟩
 | stack g o nd t=>exact⟨g,o,nd,t⟩
 | ba g o=>exact⟨g,o⟩
 | ja g o r=>exact⟨g,o,r⟩
 | fZ g o r x=>exact⟨g,o,r,x⟩
 | iT g o r=>exact⟨g,o,r⟩
 | clos c=>exact c
 | tab g o t q=>exact⟨_,g,o,t,q⟩
end
section
variable{S:Sx}{f:Fx}{α β γ:Type}{R:Rc→α→β→Prop}{n:Snap}
section
variable{T:PT α}
theorem bU{m:M β}{p:Bool}(h:p=true→Sd S f T R m n):Sd S f T R (M.when p m) n:=by
 cases p with
 | true=>exact h rfl
 | false=>exact .no
theorem kX{x y:M β}{p:Bool}(h1:p=true→Sd S f T R x n)(h2:p=false→Sd S f T R y n):Sd S f T R (cond p x y) n:=by
 cases p with
 | true=>exact h1 rfl
 | false=>exact h2 rfl
theorem kE{x y:M β}{p:Prop}[d:Decidable p](h1:p→Sd S f T R x n)(h2:Sd S f T R y n):Sd S f T R (if p then x else y) n:=by
 cases d with
 | isTrue h=>exact h1 h
 | isFalse h=>exact h2
theorem ny{o:Option γ}{k:γ→M β}{e:M β}(h:∀ a,o=some a→Sd S f T R (k a) n)(h':o=none→Sd S f T R e n):Sd S f T R (aF o k e) n:=by
 cases o with
 | some a=>exact h a rfl
 | none=>exact h' rfl
theorem gh{o:Option γ}{k:γ→M β}(h:∀ a,o=some a→Sd S f T R (k a) n):Sd S f T R (aF o k M.no) n:=ny h λz_=>.no
theorem Bv{l:List γ}{k e:M β}(h:l=[]→Sd S f T R k n)(h':Sd S f T R e n):Sd S f T R (jg l k e) n:=by
 cases l with
 | nil=>exact h rfl
 | cons a r=>exact h'
theorem Iu{l:List γ}{k:γ→List γ→M β}{e:M β}(h:∀ a r,l=a::r→Sd S f T R (k a r) n)(h':Sd S f T R e n):Sd S f T R (jL l k e) n:=by
 cases l with
 | nil=>exact h'
 | cons a r=>exact h a r rfl
theorem Bx{l:List γ}{k:γ→M β}(h:∀ a,l=[a]→Sd S f T R (k a) n):Sd S f T R (tC l k M.no) n:=
 Iu (λa r e=>Bv (λe'=>h a (e'.symm▸e)) .no) .no
theorem vN{v:af}{m:MV}{k:PV→M β}{e:M β}(hv:aW n.X v m)(h:∀ p,aW n.X v (.pv p)→Sd S f T R (k p) n)(h':Sd S f T R e n):Sd S f T R (lg m k e) n:=by
 cases m with
 | pv p=>exact h p hv
 | _=>exact h'
theorem Iv{v:af}{m:MV}{k:List MV→M β}{e:M β}(hv:aW n.X v m)(h:∀ vs,aW n.X v (.lX vs)→Sd S f T R (k vs) n)(h':Sd S f T R e n):Sd S f T R (E2 m k e) n:=by
 cases m with
 | lX p=>exact h p hv
 | _=>exact h'
end
theorem Cy{T:af→PT α}{v:af}{m:MV}{k:M β}{e:M β}(hv:aW n.X v m)(h:Sd S f (T .none) R (k) n)(h':Sd S f (T v) R e n):Sd S f (T v) R (wR m k e) n:=by
 cases m with
 | pv p=>cases p with
  | none=>cases GQ hv;exact h
  | _=>exact h'
 | _=>exact h'
theorem Ir{T:af→PT α}{v:af}{m:MV}{k:Bool→Bool→M β}{e:M β}(hv:aW n.X v m)(h:∀ l b,Sd S f (T (.bool b)) R (k l b) n)(h':Sd S f (T v) R e n):Sd S f (T v) R (wQ m k e) n:=by
 cases m with
 | pv p=>cases p with
  | bool l b=>cases vBool hv;exact h l b
  | _=>exact h'
 | _=>exact h'
theorem eu{T:af→PT α}{v:af}{m:MV}{k:Bool→Int→M β}{e:M β}(hv:aW n.X v m)(h:∀ l i t,Sd S f (T (.int i t)) R (k l i) n)(h':Sd S f (T v) R e n):Sd S f (T v) R (f6 m k e) n:=by
 cases m with
 | pv p=>cases p with
  | int l i=>obtain⟨t,rfl⟩:=vInt hv;exact h l i t
  | _=>exact h'
 | _=>exact h'
theorem fE{T:af→PT α}{v:af}{m:MV}{k:Bool→List UInt8→M β}{e:M β}(hv:aW n.X v m)(h:∀ l b t,Sd S f (T (.bytes (cK b) t)) R (k l b) n)(h':Sd S f (T v) R e n):Sd S f (T v) R (fP m k e) n:=by
 cases m with
 | pv p=>cases p with
  | bytes l b=>obtain⟨t,rfl⟩:=BJ hv;exact h l b t
  | _=>exact h'
 | _=>exact h'
theorem qP{T:af→PT α}{v:af}{m:MV}{k:Str→M β}{e:M β}(hv:aW n.X v m)(h:∀ x t,Sd S f (T (.str x t)) R (k x) n)(h':Sd S f (T v) R e n):Sd S f (T v) R (tD m k e) n:=by
 cases m with
 | pv p=>cases p with
  | str x=>obtain⟨t,rfl⟩:=vStr hv;exact h x t
  | _=>exact h'
 | _=>exact h'
theorem By{T:af→PT α}{v:af}{m:MV}{k:List PV→M β}{e:M β}(hv:aW n.X v m)(h:∀ vs a its m,n.X.G a=some (o8 its m)→bQ n.X.P n.X.G its vs→Sd S f (T (.ref a)) R (k vs) n)(h':Sd S f (T v) R e n):Sd S f (T v) R (vA m k e) n:=by
 cases m with
 | pv p=>cases p with
  | tup vs=>obtain⟨a,its,m,rfl,g,r⟩:=(nU hv).inv;exact h vs a its m g r
  | _=>exact h'
 | _=>exact h'
theorem gZ{T:af→PT α}{v:af}{m:MV}{k:List PV→M β}{e:M β}(hv:aW n.X v m)(h:∀ vs a its m,n.X.G a=some (fh its m)→bQ n.X.P n.X.G its vs→Sd S f (T (.ref a)) R (k vs) n)(h':Sd S f (T v) R e n):Sd S f (T v) R (gG m k e) n:=by
 cases m with
 | pv p=>cases p with
  | list vs=>obtain⟨a,its,m,rfl,g,r⟩:=(nU hv).inv;exact h vs a its m g r
  | _=>exact h'
 | _=>exact h'
theorem Gr{T:af→PT α}{v:af}{m:MV}{k:List UInt8→M β}{e:M β}(hv:aW n.X v m)(h:∀ b a,n.X.G a=some (J5 b)→Sd S f (T (.ref a)) R (k b) n)(h':Sd S f (T v) R e n):Sd S f (T v) R (Hy m k e) n:=by
 cases m with
 | pv p=>cases p with
  | ba b=>obtain⟨a,rfl,g⟩:=(nU hv).inv;exact h b a g
  | _=>exact h'
 | _=>exact h'
theorem Bw{T:af→PT α}{v:af}{m:MV}{k:Option au→au→List (Str×PV)→M β}{e:M β}(hv:aW n.X v m)(h:∀ tag C fs,cy n.X.P n.X.G v (.obj tag C fs)→Sd S f (T v) R (k tag C fs) n)(h':Sd S f (T v) R e n):Sd S f (T v) R (Cd m k e) n:=by
 cases m with
 | pv p=>cases p with
  | obj tag C fs=>exact h tag C fs (nU hv)
  | _=>exact h'
 | _=>exact h'
theorem JN{T:af→PT α}{v:af}{m:MV}{k:af→M β}{e:M β}(hv:aW n.X v m)(h:∀ w,Sd S f (T w) R (k w) n)(h':Sd S f (T v) R e n):Sd S f (T v) R (E3 m k e) n:=by
 cases m with
 | pv p=>cases p with
  | sv w=>cases OU hv;exact h _
  | _=>exact h'
 | _=>exact h'
theorem Lf{T:af→PT α}{v:af}{m:MV}{k:List UInt8→M β}{e:M β}(hv:aW n.X v m)(h:∀ t,cy n.X.P n.X.G v (.exc t)→Sd S f (T v) R (k t) n)(h':Sd S f (T v) R e n):Sd S f (T v) R (Jj m k e) n:=by
 cases m with
 | pv p=>cases p with
  | exc t=>exact h t (nU hv)
  | _=>exact h'
 | _=>exact h'
theorem i_{T:af→PT α}{v:af}{m:MV}{k:Nat→M β}{e:M β}(hv:aW n.X v m)(h:∀ i,i ∈ n.X.dom→Sd S f (T (.ref (n.X.θ i))) R (k i) n)(h':Sd S f (T v) R e n):Sd S f (T v) R (iK m k e) n:=by
 cases m with
 | loc i=>obtain⟨rfl,hd⟩:=ur hv;exact h i hd
 | _=>exact h'
theorem zK{T:List af→List (Str×af)→PT α}{vs:List af}{kvs:List (Str×af)}{ms:List MV}{kw:List (Str×MV)}{k e:M β}(hv:bY n.X vs ms)(hk:dQ n.X kvs kw)(h:Sd S f (T [] []) R k n)(h':Sd S f (T vs kvs) R e n):Sd S f (T vs kvs) R (Eb ms kw k e) n:=by
 cases ms with
 | nil=>cases kw with
  | nil=>cases hv.inv;cases hk.nil_inv rfl;exact h
  | cons b q=>exact h'
 | cons a r=>exact h'
theorem iz{T:List af→List (Str×af)→PT α}{vs:List af}{kvs:List (Str×af)}{ms:List MV}{kw:List (Str×MV)}{k:MV→M β}(hv:bY n.X vs ms)(hk:dQ n.X kvs kw)(h:∀ v m,aW n.X v m→Sd S f (T [v] []) R (k m) n):Sd S f (T vs kvs) R (args1 ms kw k M.no) n:=by
 cases ms with
 | nil=>exact .no
 | cons a r=>cases r with
  | cons b q=>exact .no
  | nil=>cases kw with
   | cons b q=>exact .no
   | nil=>
    refine E2_3 hv.inv λv vs eV h1 h2=>?_
    subst eV
    cases h2.inv;cases hk.nil_inv rfl;exact h v a h1
theorem t8{T:List af→List (Str×af)→PT α}{vs:List af}{kvs:List (Str×af)}{ms:List MV}{kw:List (Str×MV)}{k:MV→MV→M β}(hv:bY n.X vs ms)(hk:dQ n.X kvs kw)(h:∀ v m w o,aW n.X v m→aW n.X w o→Sd S f (T [v,w] []) R (k m o) n):Sd S f (T vs kvs) R (args2 ms kw k M.no) n:=by
 cases ms with
 | nil=>exact .no
 | cons a r=>cases r with
  | nil=>exact .no
  | cons b r=>cases r with
   | cons b q=>exact .no
   | nil=>cases kw with
    | cons b q=>exact .no
    | nil=>
     refine E2_3 hv.inv λv vs eV h1 h2=>?_
     subst eV
     refine E2_3 h2.inv λw vs eV h3 h4=>?_
     subst eV
     cases h4.inv;cases hk.nil_inv rfl;exact h v a w b h1 h3
theorem nE{T:PT α}{w:af}{kr:au→M β}{kb kt:String→M β}(h1:∀ a,w= .ref a→Sd S f T R (kr a) n)(h2:∀ x,w= .builtin x→Sd S f T R (kb x) n)(h3:∀ x,w= .type x→Sd S f T R (kt x) n):Sd S f T R (qR w kr kb kt M.no) n:=by
 cases w with
 | ref a=>exact h1 a rfl
 | builtin a=>exact h2 a rfl
 | type a=>exact h3 a rfl
 | _=>exact .no
theorem fG{σ:St}(rel:bu S f σ n){k:Nat}{o:eg}(h:cN σ.foot k=some o):k ∈ n.X.dom∧gQ S n.X n.h k o:=rel.inv.foot k o h
noncomputable def mE(S:Sx)(f:Fx)(T:PT α)(R:Rc→α→β→Prop)(p:Nat)(o:eg)(m:M β)(n:Snap):Prop:=
 ∀ σ Q,bu S f σ n→cN σ.foot p=some o→m σ Q→At S f T R Q n
section
variable{T:PT α}{p:Nat}{o:eg}
theorem Sd.of'{m:M β}(h:Sd S f T R m n):mE S f T R p o m n:=λσ Q rel z_ hm=>h σ Q rel hm
theorem iM:mE S f T R p o (M.no:M β) n:=λz_ z_ z_ z_ h=>h.elim
theorem jh{k:eg→M β}(h:∀ o,mE S f T R p o (k o) n):Sd S f T R (M.obj p k) n:=by
 intro σ Q rel hm
 unfold M.obj at hm
 cases ho:cN σ.foot p with
 | none=>rw[ho] at hm;exact hm.elim
 | some o=>rw[ho] at hm;exact h o σ Q rel ho hm
theorem l6{m:M β}{b:Bool}(h:b=true→mE S f T R p o m n):mE S f T R p o (M.need b m) n:=λσ Q rel ho hm=>h (h_ hm).1 σ Q rel ho (h_ hm).2
theorem nH{m:M β}{b:Bool}(h:b=true→mE S f T R p o m n):mE S f T R p o (M.when b m) n:=by
 cases b with
 | true=>exact h rfl
 | false=>exact iM
theorem Gx{q:Option γ}{k:γ→M β}(h:∀ a,q=some a→mE S f T R p o (k a) n):mE S f T R p o (aF q k M.no) n:=by
 cases q with
 | some a=>exact h a rfl
 | none=>exact iM
theorem CC{l:List γ}{k:γ→List γ→M β}(h:∀ a r,l=a::r→mE S f T R p o (k a r) n):mE S f T R p o (jL l k M.no) n:=by
 cases l with
 | nil=>exact iM
 | cons a r=>exact h a r rfl
theorem xO{k:au→List (Str×MV)→M β}{e:M β}(h:∀ C fs,ye n.X n.h p C fs→mE S f T R p (.inst C fs) (k C fs) n)(h':mE S f T R p o e n):mE S f T R p o (u_ o k e) n:=by
 cases o with
 | inst C fs=>exact λσ Q rel ho hm=>h C fs (fG rel ho).2.inv σ Q rel ho hm
 | _=>exact h'
theorem nF{k:List PV→M β}{e:M β}(h:∀ rev,D7 n.X n.h p rev→mE S f T R p (.list rev) (k rev) n)(h':mE S f T R p o e n):mE S f T R p o (pF o k e) n:=by
 cases o with
 | list rev=>exact λσ Q rel ho hm=>h rev (fG rel ho).2.inv σ Q rel ho hm
 | _=>exact h'
theorem qe{k:List (List PV)→M β}{e:M β}(h:∀ bz,Al n.X n.h p bz→mE S f T R p (.stack bz) (k bz) n)(h':mE S f T R p o e n):mE S f T R p o (qs o k e) n:=by
 cases o with
 | stack bz=>exact λσ Q rel ho hm=>h bz (fG rel ho).2.inv σ Q rel ho hm
 | _=>exact h'
theorem CB{k:List UInt8→M β}{e:M β}(h:∀ b,n.h.get? (n.X.θ p)=some (J5 b)∧n.X.own (n.X.θ p)=some p→mE S f T R p (.ba b) (k b) n)(h':mE S f T R p o e n):mE S f T R p o (L7 o k e) n:=by
 cases o with
 | ba b=>exact λσ Q rel ho hm=>h b (fG rel ho).2.inv σ Q rel ho hm
 | _=>exact h'
theorem zT{k:List (Str×PV)→M β}{e:M β}(h:∀ fs,yd (strKind S.prog S.w) n.X n.h p fs→mE S f T R p (.ja fs) (k fs) n)(h':mE S f T R p o e n):mE S f T R p o (Aq o k e) n:=by
 cases o with
 | ja fs=>exact λσ Q rel ho hm=>h fs (fG rel ho).2.inv σ Q rel ho hm
 | _=>exact h'
theorem zS{k:Bool→Nat→M β}{e:M β}(h:∀ ex m,Ak S n.X n.h p ex m→mE S f T R p (.fZ ex m) (k ex m) n)(h':mE S f T R p o e n):mE S f T R p o (Ao o k e) n:=by
 cases o with
 | fZ ex m=>exact λσ Q rel ho hm=>h ex m (fG rel ho).2.inv σ Q rel ho hm
 | _=>exact h'
theorem zR{k:List (List UInt8×PV)→M β}{e:M β}(h:∀ es,yd (bytesKind S.prog S.w) n.X n.h p es→mE S f T R p (.iT es) (k es) n)(h':mE S f T R p o e n):mE S f T R p o (An o k e) n:=by
 cases o with
 | iT es=>exact λσ Q rel ho hm=>h es (fG rel ho).2.inv σ Q rel ho hm
 | _=>exact h'
theorem Iz{k:Nat→Nat→M β}{e:M β}(h:∀ a b,qU S n.X (n.X.θ p) a b→mE S f T R p (.clos a b) (k a b) n)(h':mE S f T R p o e n):mE S f T R p o (I3 o k e) n:=by
 cases o with
 | clos a b=>exact λσ Q rel ho hm=>h a b (fG rel ho).2.inv σ Q rel ho hm
 | _=>exact h'
end
section
variable{Pr:α→Prop}
theorem x9{y:aJ}{k:UnaryOp→aJ→Pos→α}{e:α}(h:∀ op a q,y= .UnaryOp op a q→Pr (k op a q))(h':Pr e):Pr (Ae y k e):=by
 cases y with
 | UnaryOp op a q=>exact h op a q rfl
 | _=>exact h'
theorem oB{y:aJ}{k:Const→Nat→Pos→α}{e:α}(h:∀ c q r,y= .Constant c q r→Pr (k c q r))(h':Pr e):Pr (nJ y k e):=by
 cases y with
 | Constant c q r=>exact h c q r rfl
 | _=>exact h'
theorem uw{y:aJ}{k:aJ→aJ→Pos→α}{e:α}(h:∀ a i q,y= .Subscript a i q→Pr (k a i q))(h':Pr e):Pr (uv y k e):=by
 cases y with
 | Subscript a i q=>exact h a i q rfl
 | _=>exact h'
theorem vZ{y:aJ}{k:Str→Pos→α}{e:α}(h:∀ a q,y= .Name a q→Pr (k a q))(h':Pr e):Pr (Ad y k e):=by
 cases y with
 | Name a q=>exact h a q rfl
 | _=>exact h'
theorem yt{c:Const}{k:Int→α}{e:α}(h:∀ i,c= .int i→Pr (k i))(h':Pr e):Pr (cInt c k e):=by
 cases c with
 | int i=>exact h i rfl
 | _=>exact h'
theorem yy{b:Bool}{x y:α}(h:b=true→Pr x)(h':Pr y):Pr (cond b x y):=by
 cases b with
 | true=>exact h rfl
 | false=>exact h'
end
end
theorem jY{α:Type}(l:List (Str×α))(x:Str):lk l x=l.lookup x:=by
 induction l with
 | nil=>rfl
 | cons p r ih=>
  obtain⟨y,v⟩:=p
  rw[mz]
  rw[pW]
  show cond (bT y x) (some v) (lk r x)=_
  cases h:bT y x with
  | true=>cases bZ.mp h;rw[beq_self_eq_true];rfl
  | false=>
   have:(x == y)=false:=beq_eq_false_iff_ne.mpr λe=>iE h e.symm
   rw[this];exact ih
structure IY(K:Frag)(C:au)(c:LB):Prop where
 plain:plainGet K C ""=true
 hasDict:hasDictIn K C=true
 over:plainOver K C=true
 setattr:findIn K (.ref C) "__setattr__"=some (some (.builtin "object.__setattr__"))
 field:∀ x ∈ c.fields,findIn K (.ref C) x=some none
 Qo:∀ x g,lk c.methods x=some g→findIn K (.ref C) x=some (some (.ref g))∧typeIn K (.ref g)=some (.type "function")∧fnIn K g=true∧keepIn K (.ref g)=true
 prop:∀ x g,lk c.props x=some g→∃ p rest,findIn K (.ref C) x=some (some (.ref p))∧specialIn K (.ref p) "__get__"=some (some (.builtin "property.__get__"))∧takesIn K (.ref p)=some true∧recIn K p "property"=some (.ref g::rest)
structure ic(S:Sx)(P:Pg):Prop where
 mods:∃ o,S.h₀.get? sysModules=some o
 glob:∀ x v,lk P.glob x=some v→∃ rv,((S.mg x=some rv)∨(S.mg x=none∧S.mb x=some rv))∧cy S.w.params (λa=>S.h₀.get? a) rv v
 cls:∀ C c,AW P.cls C=some c→IY S.K C c
 needs:∀ a ns,AW P.needs a=some ns→keepIn S.K (.ref a)=true
 exc:D5 S.K
structure dX(S:Sx)(f:Fx)(ih:Ih):Prop where
 ev:∀ e n,Sd S f (WP S f (eval e f.env)) RV (ih.ev e) n
 qg:∀ e n,Sd S f (WP S f (isTrue e f.env (eval e f.env))) (oJ Bool) (ih.qg e) n
 asg:∀ t v mv n,aW n.X v mv→Sd S f (WP S f (assign t f.env v)) (oJ Unit) (ih.asg t mv) n
 ex:∀ st n,Sd S f (WP S f (exec st f.env)) dc (ih.ex st) n
 exs:∀ ss n,Sd S f (WP S f (execs ss f.env)) dc (ih.exs ss) n
theorem ee{f:Fx}{sc:List (Str×aE)}(hn:f.env.scope.names=sc)(x:Str):f.env.kindOf x=lk sc x:=by
 rw[jY, ←hn];rfl
section
variable{S:Sx}{f:Fx}{sc:List (Str×aE)}{P:Pg}{ih:Ih}{n:Snap}
theorem xo(hS:S.Ok)(hf:f.Ok)(O:ic S P)(hn:f.env.scope.names=sc)(x:Str)(pos:Pos):Sd S f (dM S f (eval (.Name x pos) f.env)) RV (zo P sc x) n:=by
 refine kX (λz_=>.no) λhd=>?_
 refine A2 (dW.mp hd) λhd hc=>?_
 have hd':(x == ("__debug__":Str))=false:=beq_eq_false_iff_ne.mpr (iE hd)
 have hc':(x == ("__classdict__":Str))=false:=beq_eq_false_iff_ne.mpr (iE hc)
 refine gh λk hk=>?_
 have loc:(k= .local∨k= .cell∨k= .free)→Sd S f (dM S f (eval (.Name x pos) f.env)) RV (M.get λσ=>aF (lk σ.locs x) (λv=>M.ret v) M.no) n:=by
  intro S2
  refine Sd.get λσ rel Q e=>?_
  cases hv:lk σ.locs x with
  | none=>rw[hv] at e;exact e.elim
  | some v=>
   rw[hv] at e
   refine At.ret (b:=v) rel e λg d tk os Q' E' P'=>?_
   refine E1_3 rel.locs λm hm hl hu=>?_
   refine E1_2 (hl x v hv) λrv EZ hx=>?_
   rw[ee hn,hk] at hx
   have fin:=P' rv tk EZ
   rcases S2 with rfl | rfl | rfl
   ·exact wpAny_Name (wpAny_loadName_local hf.kind (by rw[ee hn,hk]) hm hx fin) hd'
   ·refine E2_3 hx λc o h1 h2 h3=>?_
    exact wpAny_Name (wpAny_loadName_cell hf.kind (by rw[ee hn,hk]) h1 ⟨o,rel.inv.sub _ _ h2,h3⟩ fin) hd'
   ·refine E2_3 hx λc o h1 h2 h3=>?_
    exact wpAny_Name (wpAny_loadName_free hf.kind (by rw[ee hn,hk]) h1 ⟨o,rel.inv.sub _ _ h2,h3⟩ fin hc') hd'
 cases k with
 | «local»=>exact loc (.inl rfl)
 | cell=>exact loc (.inr (.inl rfl))
 | free=>exact loc (.inr (.inr rfl))
 | globalExplicit=>exact .no
 | globalImplicit=>
  refine gh λv hv=>?_
  refine E1_2 (O.glob x v hv) λrv EZ Kz=>?_
  refine Sd.ret λ⟨σ,rel⟩ g d tk os Q E H=>?_
  refine Name_function_global hf.kind (by rw[ee hn,hk]) ?_ hd'
  have kg:n.h.Ns f.env.globals S.mg:=by rw[hf.globals];exact hS.T.g.keeps rel.dU
  have kb:n.h.Ns f.env.builtins S.mb:=by rw[hf.builtins];exact hS.T.b.keeps rel.dU
  have hr:aW n.X rv (.pv v):=.pv (by rw[rel.inv.P];exact Kz.mono rel.inv.base)
  rcases EZ with h1 | ⟨h1,h2⟩
  ·exact loadGlobal_global kg h1 (H rv tk hr)
  ·exact loadGlobal_builtin kg h1 kb h2 (H rv tk hr)
theorem Ex(hf:f.Ok)(c:Const)(k:Nat)(pos:Pos):Sd S f (dM S f (eval (.Constant c k pos) f.env)) RV (Ew c) n:=by
 cases c with
 | none=>exact Sd.ret λz_ g d tk os Q E H=>λz_ z_ z_=>H _ _ (.pv .none)
 | bool b=>exact Sd.ret λz_ g d tk os Q E H=>wpAny_Constant_bool (H _ _ (.pv .bool))
 | int i=>exact Sd.ret λz_ g d tk os Q E H=>wpAny_Constant_int (H _ _ (.pv .int))
 | str x=>exact Sd.ret λz_ g d tk os Q E H=>wpAny_Constant_str (H _ _ (.pv .str))
 | bytes b=>exact Sd.ret λz_ g d tk os Q E H=>λz_ z_ z_=>H (.bytes b.toArray tk) (tk+1) (.pv .bytes)
 | _=>exact .no
theorem gM{a b:Nat}(h:aO a b=true):a≤b:=cB h
theorem K1{a b:Nat}(h:d9 a b=true):a<b:=cB h
theorem wV{x y:Int}(h:(lB x&&lB y)=true):IntMulOk x y:=by
 refine A2 (aj.mp h) λh1 h2=>?_
 have a:=gM h1
 have b:=gM h2
 unfold IntMulOk
 have:=W.X.bits_le (k:=x) (by omega) (by omega)
 intro hh
 simp only[jE,decide_eq_true_eq] at hh
 have l:Builtin.Int.intBits x≤64:=intBits_le_64 (by omega) (by omega)
 have:=hh.1.1
 unfold shortFactorBits at this
 omega
theorem vS{v:af}{m:MV}(hv:aW n.X v m):Sd S f (dM S f (truthy v)) (λz_ a b=>a=b∧v= .bool b) (truth m) n:=by
 unfold truth wQ lg
 cases m with
 | pv p=>cases p with
  | bool l b=>
   cases vBool hv
   have key:Sd S f (dM S f (truthy (.bool b))) (λz_ a c=>a=c∧Value.bool b= .bool c) (M.ret b) n:=Sd.ret λz_ g d tk os Q E H=>wpAny_truthy_bool (H _ tk ⟨rfl,rfl⟩)
   exact Sd.iff (λhb=>hb▸key) λhb=>hb▸key
  | _=>exact .no
 | _=>exact .no
theorem nI{v:af}{m:MV}(hv:aW n.X v m):Sd S f (dM S f (truthy v)) (λz_ a b=>a=b∧v= .bool b) (truth m) n:=vS hv
theorem z8{v:af}{m:MV}(hv:aW n.X v m):Sd S f (dM S f (truthy v)) (oJ Bool) (truth m) n:=λσ Q rel hm g d tk os Q' E' P=>
 vS hv σ Q rel hm g d tk os Q' E' λn' tk' σ' ev rel'=>⟨λb hb a ha=>(P n' tk' σ' ev rel').1 b hb a ha.1,(P n' tk' σ' ev rel').2⟩
theorem K7{v:af}{m:MV}(hv:aW n.X v m):Sd S f (dM S f (unaryOp .Not v)) RV (notM m) n:=
 Ir (T:=λv=>dM S f (unaryOp .Not v)) hv (λl b=>Sd.ret λz_ g d tk os Q E H=>not_of (wpAny_truthy_bool (H _ _ (.pv .bool)))) .no
theorem tS{k:Nat}{l:List Nat}:bL k l=true ↔ k ∈ l:=by
 induction l with
 | nil=>exact⟨nofun,nofun⟩
 | cons a r ih=>
  show cond (aX a k) true (bL k r)=true ↔ _
  cases q:aX a k with
  | true=>cases bX q;exact⟨λz_=>.head _,λz_=>rfl⟩
  | false=>exact⟨λh=>.tail _ (ih.mp h),λh=>ih.mpr ((ay.mp h).resolve_left λe=>iX q e.symm)⟩
theorem jZ{k:Nat}{l:List Nat}:k ∈ l→bL k l=true:=tS.mpr
theorem jq{k:Nat}{l:List Nat}(h:bL k l=false):k ∉ l:=λq=>by rw[jZ q] at h;cases h
theorem iI{k:Nat}{l:List Nat}:bL k l=true→k ∈ l:=tS.mp
theorem Dm{k:Nat}{l:List Nat}(h:k ∉ l):bL k l=false:=by cases q:bL k l with | false=>rfl | true=>exact absurd (iI q) h
theorem bJ(h:b9):h.get? h.objs.size=none:=by
 cases q:h.get? h.objs.size with
 | none=>rfl
 | some o=>exact absurd (bB q) (Nat.lt_irrefl _)
noncomputable abbrev Rc.name(X:Rc)(k:Nat)(a:au)(as:List au):Rc:={X with dom:=k::X.dom,θ:=λj=>if j=k then a else X.θ j,own:=λb=>if b ∈ as then some k else X.own b}
theorem Rc.Ck{X:Rc}{k:Nat}{a:au}{as:List au}(hk:k ∉ X.dom):X.le (X.name k a as):=
 ⟨rfl,λz_ z_ e=>e,λj hj=>dj _ hj,λj hj=>by
  show(if j=k then _ else _)=_
  rw[if_neg];rintro rfl;exact hk hj⟩
theorem aZ{S:Sx}{F:br}{n:Snap}(I:Inv S F n){a:au}(h:n.h.get? a=none):n.X.own a=none∧n.X.G a=none:=by
 constructor
 ·cases q:n.X.own a with
  | none=>rfl
  | some k=>obtain⟨o,e⟩:=(I.off a k q).2;rw[h] at e;exact bR e
 ·cases q:n.X.G a with
  | none=>rfl
  | some o=>have:=I.sub a o q;rw[h] at this;exact bR this
theorem r_{S:Sx}{F:br}{n:Snap}(I:Inv S F n){k:Nat}(hk:k ∉ n.X.dom)(o:eg)(h':b9)(a:au)(as:List au)
  (kp:∀ b ob,n.h.get? b=some ob→h'.get? b=some ob)(ho:gQ S (n.X.name k a as) h' k o)(hfp:∀ a ∈ as,n.h.get? a=none∧∃ o,h'.get? a=some o)(own fr cl:List au):
  dB own fr cl n ⟨n.X.name k a as,h'⟩∧Inv S ((k,o)::F) ⟨n.X.name k a as,h'⟩:=by
 have le:n.X.le (n.X.name k a as):=Rc.Ck hk
 have Qs:∀ b j,n.X.own b=some j→b ∉ as:=λb j e hb=>by
  rw[(aZ I (hfp b hb).1).1] at e;exact bR e
 refine⟨⟨le,λb ob e z_ z_=>⟨λz_=>kp b ob e,λz_=>⟨ob.slots,kp b ob e⟩⟩,λb ob e=>⟨ob,kp b ob e⟩,λb j e=>?_,λb ob e=>.inl e⟩,I.P,I.base,λb ob e=>kp _ _ (I.sub b ob e),λj ob e=>?_,λb j e=>?_⟩
 ·have e:(if b ∈ as then some k else n.X.own b)=some j:=e
  split at e
  ·rename_i hb;exact .inr (hfp b hb).1
  ·exact .inl ⟨j,e⟩
 ·have e:cond (aX k j) (some o) (cN F j)=some ob:=e
  cases hb:aX k j with
  | true=>
   rw[hb] at e;cases e
   cases bX hb
   exact⟨cR,ho⟩
  | false=>
   rw[hb] at e
   refine A2 (I.foot j ob e) λh1 h2=>?_
   refine⟨dj _ h1,h2.mono le h1 λb hb=>⟨?_,λob e=>kp b ob e⟩⟩
   show(if b ∈ as then some k else n.X.own b)=some j
   rw[if_neg (Qs b j hb)];exact hb
 ·have e:(if b ∈ as then some k else n.X.own b)=some j:=e
  split at e
  ·rename_i hb;exact⟨(aZ I (hfp b hb).1).2,(hfp b hb).2⟩
  ·exact⟨(I.off b j e).1,(I.off b j e).2.elim λo e=>⟨o,kp b o e⟩⟩
theorem Sd.new{α:Type}{T:PT α}{R:Rc→α→MV→Prop}{o:eg}{nm:Option Nat}(h:∀ σ,bu S f σ n→∀ k,k ∉ n.X.dom→∀ g d tk os (Q':α→ah→Prop) E',
  (∀ h' a as tk' v,(∀ b ob,n.h.get? b=some ob→h'.get? b=some ob)→gQ S (n.X.name k a as) h' k o→(∀ a ∈ as,n.h.get? a=none∧∃ o,h'.get? a=some o)→R (n.X.name k a as) v (.loc k)→Q' v ⟨h',g,d,tk',os⟩)→T Q' E' ⟨n.h,g,d,tk,os⟩):Sd S f T R (M.new nm o) n:=by
 have key:∀ σ,bu S f σ n→∀ k,bL k σ.dom=false→∀ Q:Res MV→St→Prop,Q (.ok (.loc k)) {σ with dom:=k::σ.dom,foot:=(k,o)::σ.foot}→At S f T R Q n:=by
  intro σ rel k hk Q hq g d tk os Q' E' P'
  have hkd:k ∉ n.X.dom:=by rw[rel.dom];exact jq hk
  refine h σ rel k hkd g d tk os Q' E' λh' a as tk' v kp ho hfp hr=>?_
  refine A2 (r_ rel.inv hkd o h' a as kp ho hfp [] f.cZ []) λev inv=>?_
  refine(P' _ tk' _ ev.wide (rel.pN ev inv (σ':={σ with dom:=k::σ.dom,foot:=(k,o)::σ.foot}) (by show k::n.X.dom=k::σ.dom;rw[rel.dom]) rfl rfl)).1 _ hq v hr
 intro σ Q rel hm
 unfold M.new at hm
 split at hm
 ·exact key σ rel _ (yk hm).1 Q (yk hm).2
 ·exact key σ rel _ (yk hm).1 Q (yk hm).2
theorem Dc{S:Sx}{F:br}{n:Snap}(I:Inv S F n)(o:Obj)(hf:o.isFreed=false)(own fr cl:List au):
  dB own fr cl n ⟨{n.X with G:=λa=>if a=n.h.objs.size then some o else n.X.G a},n.h.push o⟩∧Inv S F ⟨{n.X with G:=λa=>if a=n.h.objs.size then some o else n.X.G a},n.h.push o⟩:=by
 have hG:∀ a ob,n.X.G a=some ob→(if a=n.h.objs.size then some o else n.X.G a)=some ob:=λa ob e=>by
  rw[if_neg];exact e
  rintro rfl
  have:=I.sub _ _ e
  rw[bJ] at this;exact bR this
 have kp:∀ b ob,n.h.get? b=some ob→(n.h.push o).get? b=some ob:=λb ob e=>aq _ e
 have le:n.X.le {n.X with G:=λa=>if a=n.h.objs.size then some o else n.X.G a}:=⟨rfl,hG,λz_ h=>h,λz_ z_=>rfl⟩
 refine⟨⟨le,λb ob e z_ z_=>⟨λz_=>kp b ob e,λz_=>⟨ob.slots,kp b ob e⟩⟩,λb ob e=>⟨ob,kp b ob e⟩,λa k ha=>.inl ⟨k,ha⟩,λa ob e=>?_⟩,
  I.P,λa ob e=>hG a ob (I.base a ob e),λa ob e=>?_,λj ob e=>?_,λa k e=>?_⟩
 ·dsimp only at e
  by_cases q:a=n.h.objs.size
  ·exact .inr (.inr (.inl (q▸bJ _)))
  ·rw[if_neg q] at e;exact .inl e
 ·dsimp only at e
  by_cases q:a=n.h.objs.size
  ·rw[if_pos q] at e;cases e;rw[q];exact aL _ hf
  ·rw[if_neg q] at e;exact kp _ _ (I.sub a ob e)
 ·obtain⟨h1,h2⟩:=I.foot j ob e
  exact⟨h1,h2.mono le h1 λb hb=>⟨hb,λob e=>kp b ob e⟩⟩
 ·refine⟨?_,(I.off a k e).2.elim λo e=>⟨o,kp a o e⟩⟩
  show(if a=n.h.objs.size then some o else n.X.G a)=none
  rw[if_neg];exact(I.off a k e).1
  rintro rfl
  obtain⟨ob,e'⟩:=(I.off _ k e).2
  rw[bJ] at e';exact bR e'
theorem Sd.l_{α:Type}{T:PT α}{R:Rc→α→MV→Prop}{b:MV}(h:(∃ σ,bu S f σ n)→∀ g d tk os (Q':α→ah→Prop) E',
  (∀ o tk' v,o.isFreed=false→R {n.X with G:=λa=>if a=n.h.objs.size then some o else n.X.G a} v b→Q' v ⟨n.h.push o,g,d,tk',os⟩)→T Q' E' ⟨n.h,g,d,tk,os⟩):Sd S f T R (M.ret b) n:=by
 intro σ Q rel hq g d tk os Q' E' P'
 refine h ⟨σ,rel⟩ g d tk os Q' E' λo tk' v hf hr=>?_
 refine A2 (Dc rel.inv o hf [] f.cZ []) λev inv=>?_
 exact(P' _ tk' σ ev.wide (rel.pN ev inv rel.dom rfl rfl)).1 _ hq v hr
end
section
variable{S:Sx}{f:Fx}{sc:List (Str×aE)}{P:Pg}{ih:Ih}{n:Snap}
theorem mX(e:aJ)(r:List aJ)(env:Env)(h:isStarred e=false):starEach (e::r) env=(false,eval e env)::starEach r env:=by
 cases e <;> first | rfl | cases h
theorem kC{e:aJ}{r:List aJ}(h:dJ (e::r)=true):isStarred e=false∧dJ r=true:=by
 have h:cond (isStarred e) false (dJ r)=true:=h
 cases hs:isStarred e with
 | true=>rw[hs] at h;exact gy h
 | false=>rw[hs] at h;exact⟨rfl,h⟩
theorem sO(pos:Pos)(env:Env)(es:List aJ):dJ es=true→(backTo pos (starEach es env)).any (·.1)=false:=by
 induction es with
 | nil=>exact λz_=>rfl
 | cons e r ih=>
  intro h
  refine A2 (kC h) λh1 h2=>?_
  rw[mX e r env h1]
  show(false||(backTo pos (starEach r env)).any (·.1))=false
  rw[ih h2];rfl
theorem qH(pos:Pos)(env:Env)(ks:List jQ):gU ks=true→(backToKw pos (keywordEach ks env)).any (·.1.isNone)=false∧(backToKw pos (keywordEach ks env)).all (·.1.isSome)=true:=by
 induction ks with
 | nil=>exact λz_=>⟨rfl,rfl⟩
 | cons k r ih=>
  obtain⟨a,e,q⟩:=k
  intro h
  cases a with
  | none=>exact nomatch (show false=true from h)
  | some x=>
   refine A2 (ih h) λh1 h2=>?_
   constructor
   ·show(false||(backToKw pos (keywordEach r env)).any (·.1.isNone))=false
    rw[h1];rfl
   ·show(true&&(backToKw pos (keywordEach r env)).all (·.1.isSome))=true
    rw[h2];rfl
theorem AA(hI:dX S f ih)(pos:Pos)(es:List aJ):∀ (n:Snap),dJ es=true→Sd S f (WP S f (spliced (backTo pos (starEach es f.env)))) LC (wK ih es) n:=by
 induction es with
 | nil=>exact λn z_=>Sd.ret λz_ g d tk os Q E H=>ly (H [] tk .nil)
 | cons e r ihr=>
  intro n h
  refine A2 (kC h) λh1 h2=>?_
  have e1:backTo pos (starEach (e::r) f.env)=(false,eval e f.env)::backTo pos (starEach r f.env):=by
   rw[mX e r f.env h1];rfl
  refine Sd.imp (T:=λQ E s=>aA (model S.prog S.w) f.A (eval e f.env) (λv s'=>aA (model S.prog S.w) f.A (spliced (backTo pos (starEach r f.env))) (λvs s''=>Q (v::vs) s'') E s') E s) ?_
   (λQ E s h=>by show aA _ _ (spliced (backTo pos (starEach (e::r) f.env))) Q E s;rw[e1];exact kq h)
  refine Sd.bind (R:=LC) (hI.ev e n) λn' ev v m hv=>?_
  refine Sd.post (R:=LC) (U:=λvs=>v::vs) (ihr n' h2) λnS ev' vs ms hvs=>.cons (hv.mono ev'.le) hvs
theorem Ff(hI:dX S f ih)(pos:Pos)(ks:List jQ):∀ (n:Snap),gU ks=true→
  Sd S f (λQ E s=>aA (model S.prog S.w) f.A (evalAll ((backToKw pos (keywordEach ks f.env)).map (·.2))) (λvs s'=>Q (((backToKw pos (keywordEach ks f.env)).filterMap (·.1)).zip vs) s') E s) LZ (AU ih ks) n:=by
 induction ks with
 | nil=>exact λn z_=>Sd.ret λz_ g d tk os Q E H=>aD (H [] tk .nil)
 | cons k r ihr=>
  obtain⟨a,e,q⟩:=k
  intro n h
  cases a with
  | none=>exact nomatch (show false=true from h)
  | some x=>
   refine Sd.imp (T:=λQ E s=>aA (model S.prog S.w) f.A (eval e f.env) (λv s'=>aA (model S.prog S.w) f.A (evalAll ((backToKw pos (keywordEach r f.env)).map (·.2))) (λvs s''=>Q ((x,v)::((backToKw pos (keywordEach r f.env)).filterMap (·.1)).zip vs) s'') E s') E s) ?_
    (λQ E s h=>?_)
   ·refine Sd.bind (R:=LZ) (hI.ev e n) λn' ev v m hv=>?_
    refine Sd.post (R:=LZ) (U:=λvs=>(x,v)::vs) (ihr n' h) λnS ev' vs ms hvs=>.cons (hv.mono ev'.le) hvs
   ·show aA _ _ (evalAll ((do let v ←eval e f.env;standAt pos;pure v)::(backToKw pos (keywordEach r f.env)).map (·.2))) _ E s
    exact AZ (ai (aN h λv s' h'=>ai (bG (aD h'))))
theorem Ba{M:g6}{A:bC}{E:af→ah→Prop}{s:ah}{pos:Pos}{env:Env}{g:af}{es:List aJ}{ks:List jQ}{Q:Args→ah→Prop}(ha:dJ es=true)(hk:gU ks=true)
  (h:aA M A (spliced (backTo pos (starEach es env))) (λvs s₁=>aA M A (evalAll ((backToKw pos (keywordEach ks env)).map (·.2))) (λkv s₂=>Q ⟨vs,((backToKw pos (keywordEach ks env)).filterMap (·.1)).zip kv⟩ s₂) E s₁) E s):
  aA M A (evalArgs g true (backTo pos (starEach es env)) (backToKw pos (keywordEach ks env))) Q E s:=by
 refine A2 (qH pos env ks hk) λhk1 hk2=>?_
 have tail:∀ (vs:List af) (s₁:ah),aA M A (evalAll ((backToKw pos (keywordEach ks env)).map (·.2))) (λkv s₂=>Q ⟨vs,((backToKw pos (keywordEach ks env)).filterMap (·.1)).zip kv⟩ s₂) E s₁→
   aA M A (holding (vs++(none:Option af).toList) (do
    if(backToKw pos (keywordEach ks env)).all (·.1.isSome) then
     let kw:=((backToKw pos (keywordEach ks env)).filterMap (·.1)).zip (←evalAll ((backToKw pos (keywordEach ks env)).map (·.2)))
     return (⟨←(pure vs:Sem (List af)),kw⟩:Args)
    let d ←mergedKeywords g (backToKw pos (keywordEach ks env))
    let pos ←(pure vs:Sem (List af))
    return ⟨pos, ←holding (.ref d::pos) (keywordsIn g d)⟩)) Q E s₁:=λvs s₁ h₁=>by
  refine aM ?_
  rw[hk2]
  exact ai (aN h₁ λkv s₂ h₂=>ai (aD (aD h₂)))
 cases es with
 | nil=>
  unfold evalArgs
  exact ai (m:=spliced []) (aN h λvs s₁ h₁=>ai (aD (tail vs s₁ h₁)))
 | cons e r=>
  refine A2 (kC ha) λp1 p2=>?_
  rw[mX e r env p1] at h ⊢
  unfold evalArgs
  exact ai (m:=spliced (backTo pos ((false,eval e env)::starEach r env))) (aN h λvs s₁ h₁=>ai (aD (tail vs s₁ h₁)))
theorem B3{M:g6}{A:bC}{E:af→ah→Prop}{s:ah}{pos:Pos}{env:Env}{g:af}{first:List af}{es:List aJ}{ks:List jQ}{Q:af→ah→Prop}(ha:dJ es=true)(hk:gU ks=true)
  (h:aA M A (spliced (backTo pos (starEach es env))) (λvs s₁=>aA M A (evalAll ((backToKw pos (keywordEach ks env)).map (·.2))) (λkv s₂=>
   (∃ k,cH M s₂.heap (keeperOf g) k)∧aA M A (call g (first++vs) (((backToKw pos (keywordEach ks env)).filterMap (·.1)).zip kv)) Q E s₂) E s₁) E s):
  aA M A (callWith pos g first (backTo pos (starEach es env)) (backToKw pos (keywordEach ks env))) Q E s:=by
 unfold callWith
 have hp:=sO pos env es ha
 refine A2 (qH pos env ks hk) λhk1 hk2=>?_
 refine ai (aM (Ba ha hk (aN h λvs s₁ h₁=>aN h₁ λkv s₂ h₂=>ai (bG ?_))))
 refine A2 h₂ λGS h₂=>?_
 refine E1_1 GS λk L=>?_
 rw[hp,hk1]
 refine ai (fR L ?_)
 have tail:∀ {t:Sem af},aA M A t Q E s₂→aA M A (t>>=λr=>holding [r] point>>=λz_=>pure r) Q E s₂:=
  λht=>ai (aN ht λr s₃ hr=>ai (aM (Cj (aD hr))))
 cases k <;> (simp only[Bool.or_self];first | exact tail h₂ | exact tail (ng h₂) | (split <;> first | exact tail h₂ | exact tail (KZ h₂)))
end
section
open PySem.SeqAt
open Builtin
section
variable{A:bC}{s:ah}
theorem zG(a b:List UInt8)(t u:Tok):RcAt A s (.bytes a.toArray t) (.bytes b.toArray u) (a == b):=λprog w E Q h=>eq_bytes h
theorem mZ:isSubtype (.type "NoneType") (.type "bytes")=pure false:=by rw[isSubtype_type];kernel_rfl
theorem uL(b:Array UInt8)(t:Tok):Gives («bytes.__eq__» ⟨[.bytes b t,.none],[]⟩) (.val .notImplemented):=
 .of_wp λM A E s Q h=>by
  obtain⟨hp,g,d,tk,os⟩:=s
  wp_walk
  rw[mZ]
  refine wpAny_pure ?_
  rw[if_pos (by rfl)]
  exact wpAny_bind (wpAny_rule (wpAny_pure ⟨_,rfl,h⟩))
theorem uZ(b:Array UInt8)(t:Tok):Gives (fU.«NoneType.__eq__» ⟨[.none,.bytes b t],[]⟩) (.val (Value.notImplemented)):=
 .of_wp λM A E s Q h=>by obtain⟨hp,g,d,tk,os⟩:=s;wp_walk;exact⟨_,rfl,h⟩
theorem oz(b:Array UInt8)(t:Tok):RcAt A s (.bytes b t) .none false:=λprog w E Q h=>
 rc_eq_decline_or (k:=false) (typeIs_bytes s _ t) rfl (by decide) mZ FB.slot_bytes_eq F.slot_NoneType_eq_refl
  (λz_ hq=>call_gives FB.slot_bytes_eq (typeIs_bytes s _ t) FB.entry_bytes_eq (FB.args_bytes_eq_2 _ _) (uL b t) hq)
  (λz_ hq=>call_gives F.slot_NoneType_eq_refl rfl F.entry_NoneType_eq (F.args_NoneType_eq_2 _ _) (uZ b t) hq)
  (λz_ hq=>wpAny_of_eq (rfl:isSame (.bytes b t) .none=pure false) hq) (.inl rfl) h
theorem Az(a b:List UInt8)(t u:Tok):EqAt A s (.bytes a.toArray t) (.bytes b.toArray u) (a == b):=λprog w E Q h=>by
 unfold eqBool
 refine wpAny_holding ?_
 refine wpAny_ite_split (λhab=>?_) (λz_=>?_)
 ·have e:=eq_of_beq hab
  injection e with e _
  have e:=congrArg uD e
  simp only at e
  exact wpAny_bind (wpAny_rule (wpAny_pure (by simpa [e] using h)))
 ·exact wpAny_bind (zG a b t u prog w E _ (wpAny_truthy_bool h))
theorem rI(a:Array UInt8)(t:Tok):EqAt A s (.bytes a t) .none false:=λprog w E Q h=>by
 unfold eqBool
 refine wpAny_holding ?_
 refine wpAny_ite_split (λhab=>absurd (eq_of_beq hab) nofun) (λz_=>?_)
 exact wpAny_bind (oz a t prog w E _ (wpAny_truthy_bool h))
theorem s7{l:au}{items:Array af}(hl:s.heap.IsList l items)(hu:A.units<cLine):EqAt A s (.ref l) .none false:=λprog w E Q h=>by
 unfold eqBool
 refine wpAny_holding ?_
 refine wpAny_ite_split (λhab=>absurd (eq_of_beq hab) nofun) (λz_=>?_)
 exact wpAny_bind (RcAt.list_none hl hu prog w E _ (wpAny_truthy_bool h))
end
theorem uf(a b:Str):bT a b=(a == b):=by
 rw[Bool.eq_iff_iff,bZ,beq_iff_eq]
theorem iC{C:Prop}{k:Bool}(h:(none:Option Bool)=some k):C:=bR h
theorem qu{a b:Option Bool}{g:Bool→Bool→Bool}{k:Bool}(h:aF a (λx=>aF b (λy=>some (g x y)) none) none=some k):∃ x y,a=some x∧b=some y∧k=g x y:=by
 cases a with
 | none=>exact iC h
 | some x=>cases b with
  | none=>exact iC h
  | some y=>exact⟨x,y,rfl,rfl,(aK h).symm⟩
theorem all_cons{α:Type}{p:α→Prop}{a:α}{l:List α}(h:p a)(r:∀ b ∈ l,p b):∀ b ∈ a::l,p b:=gP.mpr ⟨h,r⟩
theorem all_nil{α:Type}{p:α→Prop}:∀ b ∈ ([]:List α),p b:=λz_ h=>jd h
theorem t6{C:PV→PV→Bool→Prop}{e:Option (PV→PV→Option Bool)}{p q:PV}{k:Bool}(h:tZ e p q=some k)
  (c0:C .none .none true)(c1:∀ l a m b,C (.bool l a) (.bool m b) (a == b))(c2:∀ l a m b,C (.int l a) (.int m b) (a == b))(c3:∀ l a,C (.int l a) .none false)
  (c4:∀ l a m b,C (.bytes l a) (.bytes m b) (a == b))(c5:∀ l a,C (.bytes l a) .none false)(c6:∀ a b,C (.str a) (.str b) (bT a b))
  (c7:∀ a b f k,e=some f→oh f a b=some k→C (.tup a) (.tup b) k)(c8:∀ a b f k,e=some f→a.length=b.length→oh f a b=some k→C (.list a) (.list b) k)
  (c9:∀ a b,a.length≠b.length→C (.list a) (.list b) false)(R6:∀ a,C (.list a) .none false):C p q k:=by
 cases p with
 | none=>cases q with
  | none=>cases h;exact c0
  | _=>exact iC h
 | bool l a=>cases q with
  | bool m b=>cases h;exact c1 l a m b
  | _=>exact iC h
 | int l a=>cases q with
  | int m b=>cases h;exact c2 l a m b
  | none=>cases h;exact c3 l a
  | _=>exact iC h
 | bytes l a=>cases q with
  | bytes m b=>cases h;exact c4 l a m b
  | none=>cases h;exact c5 l a
  | _=>exact iC h
 | str a=>cases q with
  | str b=>cases h;exact c6 a b
  | _=>exact iC h
 | tup a=>cases q with
  | tup b=>cases e with
   | none=>exact iC h
   | some f=>exact c7 a b f k rfl h
  | _=>exact iC h
 | list a=>cases q with
  | list b=>cases e with
   | none=>exact iC h
   | some f=>
    have h:cond (aX a.length b.length) (oh f a b) (some false)=some k:=h
    cases hb:aX a.length b.length with
    | true=>rw[hb] at h;exact c8 a b f k rfl (bX hb) h
    | false=>rw[hb] at h;cases h;exact c9 a b (iX hb)
  | none=>cases h;exact R6 a
  | _=>exact iC h
 | _=>exact iC h
theorem eO{G:au→Option Obj}{s:ah}(sub:∀ a o,G a=some o→s.heap.get? a=some o){a:au}{its:List af}{n:Nat}(g:G a=some (fh its n)):s.heap.IsList a its.toArray:=⟨_,sub _ _ g,rfl,_,rfl⟩
theorem j9{G:au→Option Obj}{s:ah}(sub:∀ a o,G a=some o→s.heap.get? a=some o){a:au}{its:List af}{n:Nat}(g:G a=some (o8 its n)):s.heap.IsTuple a its.toArray:=⟨_,sub _ _ g,rfl,_,rfl⟩
theorem AR{T:af}{its its':List af}{m m':Nat}(h:some ({cls:=T,data:=.seq its.toArray m}:Obj)=some {cls:=T,data:=.seq its'.toArray m'}):its=its':=by
 injection h with q
 injection q with _ _ q _
 injection q with q _
 exact congrArg uD q
section
variable{Pm:aV}{G:au→Option Obj}
theorem s8{f:PV→PV→Option Bool}(hf:∀ {x p q k},cy Pm G x p→cy Pm G x q→f p q=some k→k=true)(a:List PV):∀ {its b k},bQ Pm G its a→bQ Pm G its b→oh f a b=some k→k=true:=by
 induction a with
 | nil=>
  intro its b k ha hb h
  cases ha.inv
  cases b with
  | nil=>exact(aK h).symm
  | cons y b=>obtain⟨_,_,e,_⟩:=hb.inv;exact nomatch e
 | cons x a ih=>
  intro its b k ha hb h
  refine E2_3 ha.inv λv vs eV h1 h2=>?_
  subst eV
  cases b with
  | nil=>exact nomatch hb.inv
  | cons y b=>
   refine E2_3 hb.inv λv' vs' e PS h2'=>?_
   cases e
   refine E2_3 (qu h) λk1 k2 e1 e2 DY=>?_
   subst DY
   rw[hf h1 PS e1,ih h2 h2' e2];rfl
theorem o4{e:Option (PV→PV→Option Bool)}(he:∀ f,e=some f→∀ {x p q k},cy Pm G x p→cy Pm G x q→f p q=some k→k=true){x:af}{p q:PV}{k:Bool}(hx:cy Pm G x p)(hy:cy Pm G x q)(h:tZ e p q=some k):k=true:=by
 refine t6 (C:=λp q k=>cy Pm G x p→cy Pm G x q→k=true) h (λz_ z_=>rfl) (λl a m b hx hy=>?_) (λl a m b hx hy=>?_) (λl a hx hy=>?_) (λl a m b hx hy=>?_) (λl a hx hy=>?_) (λa b hx hy=>?_)
  (λa b f k e h hx hy=>?_) (λa b f k e hl h hx hy=>?_) (λa b hl hx hy=>?_) (λa hx hy=>?_) hx hy
 ·cases hx.inv.symm.trans hy.inv;exact beq_self_eq_true a
 ·obtain⟨t,e⟩:=hx.inv;obtain⟨u,e'⟩:=hy.inv;cases e.symm.trans e';exact beq_self_eq_true a
 ·obtain⟨t,e⟩:=hx.inv;exact nomatch e.symm.trans hy.inv
 ·obtain⟨t,e⟩:=hx.inv;obtain⟨u,e'⟩:=hy.inv;cases e.symm.trans e';exact beq_self_eq_true a
 ·obtain⟨t,e⟩:=hx.inv;exact nomatch e.symm.trans hy.inv
 ·obtain⟨t,e⟩:=hx.inv;obtain⟨u,e'⟩:=hy.inv;cases e.symm.trans e';exact bZ.mpr rfl
 ·refine fO λzz=>?_
  obtain⟨z,its,m,e1,g,r⟩:=hx.inv;obtain⟨z',its',m',e2,g',r'⟩:=hy.inv
  cases e1.symm.trans e2;cases AR (g.symm.trans g')
  refine zz ?_
  exact s8 (he f e) a r r' h
 ·refine fO λzz=>?_
  obtain⟨z,its,m,e1,g,r⟩:=hx.inv;obtain⟨z',its',m',e2,g',r'⟩:=hy.inv
  cases e1.symm.trans e2;cases AR (g.symm.trans g')
  refine zz ?_
  exact s8 (he f e) a r r' h
 ·refine fO λzz=>?_
  obtain⟨z,its,m,e1,g,r⟩:=hx.inv;obtain⟨z',its',m',e2,g',r'⟩:=hy.inv
  cases e1.symm.trans e2;cases AR (g.symm.trans g')
  refine zz ?_
  exact absurd (r.length.symm.trans r'.length) hl
 ·obtain⟨z,its,m,e,_⟩:=hx.inv;exact nomatch e.symm.trans hy.inv
theorem Dz(fuel:Nat):∀ {x:af}{p q:PV}{k:Bool},cy Pm G x p→cy Pm G x q→lZ fuel p q=some k→k=true:=by
 induction fuel with
 | zero=>exact λhx hy h=>o4 (e:=none) (λz_ e=>bR e) hx hy h
 | succ n ih=>exact λhx hy h=>o4 (λf e z_ z_ z_ z_ a b c=>ih a b (by cases e;exact c)) hx hy h
theorem yS{A:bC}{s:ah}{f:PV→PV→Option Bool}(he:∀ {x y p q k},cy Pm G x p→cy Pm G y q→f p q=some k→EqAt A s x y k)(a:List PV):∀ {its its' b k},bQ Pm G its a→bQ Pm G its' b→oh f a b=some k→
  ∃ e:Nat→Bool,(∀ j (h1:j<its.length) (h2:j<its'.length),EqAt A s its[j] its'[j] (e j))∧k=((List.range (min its.length its'.length)).all e&&its.length == its'.length):=by
 induction a with
 | nil=>
  intro its its' b k ha hb h
  cases ha.inv
  refine⟨λz_=>true,λj h1=>(nomatch h1),?_⟩
  cases b with
  | nil=>cases hb.inv;exact(aK h).symm
  | cons y b=>obtain⟨v,vs,rfl,_⟩:=hb.inv;rw[nK,Nat.zero_min];exact(aK h).symm
 | cons x a ih=>
  intro its its' b k ha hb h
  refine E2_3 ha.inv λv vs eV h1 h2=>?_
  subst eV
  cases b with
  | nil=>cases hb.inv;exact⟨λz_=>true,λj z_ h2=>(nomatch h2),by rw[nK,Nat.min_zero];exact(aK h).symm⟩
  | cons y b=>
   refine E2_3 hb.inv λv' vs' eV PS h2'=>?_
   subst eV
   refine E2_3 (qu h) λk1 k2 e1 e2 DY=>?_
   subst DY
   refine E1_2 (ih h2 h2' e2) λe i1 eV=>?_
   subst eV
   refine⟨λj=>Nat.casesOn j k1 e,λj j1 j2=>?_,?_⟩
   ·cases j with
    | zero=>exact he h1 PS e1
    | succ j=>exact i1 j (iP j1) (iP j2)
   ·rw[bE,bE,Nat.add_min_add_right,List.range_succ_eq_map,List.all_cons,List.all_map,Bool.and_assoc]
    rw[show(vs.length+1 == vs'.length+1)=(vs.length == vs'.length) from by rw[Bool.eq_iff_iff,beq_iff_eq,beq_iff_eq,Nat.add_right_cancel_iff]]
    rfl
noncomputable def HE(p:PV):Bool:=match p with | .tup _=>true | .list _=>true | _=>false
noncomputable def BR(A:bC)(s:ah)(Pm:aV)(G:au→Option Obj)(p q:PV)(k:Bool):Prop:=∀ x y,cy Pm G x p→cy Pm G y q→(RcAt A s x y k∧EqAt A s x y k)∧(HE p=true→HE q=true→RcNeAt A s x y (!k))
theorem xG{A:bC}{s:ah}{a b:au}{k:Bool}(hs:a=b→k=true)(rc:RcAt A s (.ref a) (.ref b) k):RcAt A s (.ref a) (.ref b) k∧EqAt A s (.ref a) (.ref b) k:=⟨rc,by
 by_cases hab:a=b
 ·rw[hs hab,hab];exact .same _
 ·exact .of_refs hab rc⟩
theorem G6{a b:Nat}(h:a=b){x:Bool}:(x&&(a == b))=x:=by rw[h,beq_self_eq_true,Bool.and_true]
theorem zE{s:ah}(sub:∀ a o,G a=some o→s.heap.get? a=some o)(fuel:Nat):∀ {p q:PV}{k:Bool}{A:bC},A.units+fuel<cLine→lZ fuel p q=some k→BR A s Pm G p q k:=by
 have one:∀ (e:Option (PV→PV→Option Bool)) {p q:PV}{k:Bool}{A:bC},A.units<cLine→(∀ f,e=some f→(∀ {p q k},f p q=some k→BR A.in1 s Pm G p q k)∧∀ {x p q k},cy Pm G x p→cy Pm G x q→f p q=some k→k=true)→tZ e p q=some k→BR A s Pm G p q k:=by
  intro e p q k A hu he h
  have same:∀ {x:af}{p q:PV}{k:Bool},cy Pm G x p→cy Pm G x q→tZ e p q=some k→k=true:=λhx hy h=>o4 (λf ef=>(he f ef).2) hx hy h
  have h0:=h
  refine t6 (C:=λp q k=>tZ e p q=some k→BR A s Pm G p q k) h ?_ ?_ ?_ ?_ ?_ ?_ ?_ ?_ ?_ ?_ ?_ h0
  ·intro _ x y hx hy;cases hx.inv;cases hy.inv;exact⟨⟨RcAt.none_none,.same _⟩,nofun⟩
  ·intro l a m b _ x y hx hy;cases hx.inv;cases hy.inv;exact⟨⟨RcAt.bool_bool _ _,EqAt.bool_bool _ _⟩,nofun⟩
  ·intro l a m b _ x y hx hy;obtain⟨t,rfl⟩:=hx.inv;obtain⟨u,rfl⟩:=hy.inv;exact⟨⟨RcAt.int_int _ _ _ _,EqAt.int_int _ _ _ _⟩,nofun⟩
  ·intro l a _ x y hx hy;obtain⟨t,rfl⟩:=hx.inv;cases hy.inv;exact⟨⟨RcAt.int_none _ _,EqAt.int_none _ _⟩,nofun⟩
  ·intro l a m b _ x y hx hy;obtain⟨t,rfl⟩:=hx.inv;obtain⟨u,rfl⟩:=hy.inv;exact⟨⟨zG _ _ _ _,Az _ _ _ _⟩,nofun⟩
  ·intro l a _ x y hx hy;obtain⟨t,rfl⟩:=hx.inv;cases hy.inv;exact⟨⟨oz _ _,rI _ _⟩,nofun⟩
  ·intro a b _ x y hx hy;obtain⟨t,rfl⟩:=hx.inv;obtain⟨u,rfl⟩:=hy.inv;rw[uf];exact⟨⟨RcAt.str_str _ _ _ _,EqAt.str_str _ _ _ _⟩,nofun⟩
  ·intro a b f k ef h h1 x y hx hy
   refine fO λzz=>?_
   obtain⟨z,its,m,rfl,g,r⟩:=hx.inv;obtain⟨z',its',m',rfl,g',r'⟩:=hy.inv
   obtain⟨e,i1,rfl⟩:=yS (λa b c=>((he f ef).1 c _ _ a b).1.2) a r r' h
   refine zz ?_
   exact⟨xG (λq=>same hx (q▸hy) h1) (RcAt.tuples (e:=e) (j9 sub g) (j9 sub g') hu i1),λz_ z_=>RcNeAt.tuples (e:=e) (j9 sub g) (j9 sub g') hu i1⟩
  ·intro a b f k ef hl h h1 x y hx hy
   refine fO λzz=>?_
   obtain⟨z,its,m,rfl,g,r⟩:=hx.inv;obtain⟨z',its',m',rfl,g',r'⟩:=hy.inv
   have hl:its.length=its'.length:=r.length.trans (hl.trans r'.length.symm)
   obtain⟨e,i1,hk⟩:=yS (λa b c=>((he f ef).1 c _ _ a b).1.2) a r r' h
   refine zz ?_
   rw[G6 hl, ←hl,Nat.min_self] at hk
   subst hk
   exact⟨xG (λq=>same hx (q▸hy) h1) (RcAt.lists (e:=e) (eO sub g) (eO sub g') hl hu i1),λz_ z_=>RcNeAt.lists (e:=e) (eO sub g) (eO sub g') hl hu i1⟩
  ·intro a b hl h1 x y hx hy
   refine fO λzz=>?_
   obtain⟨z,its,m,rfl,g,r⟩:=hx.inv;obtain⟨z',its',m',rfl,g',r'⟩:=hy.inv
   refine zz ?_
   have hn:(its.toArray.size != its'.toArray.size)=true:=bne_iff_ne.mpr λq=>hl (r.length.symm.trans (Eq.trans q r'.length))
   exact⟨xG (λq=>same hx (q▸hy) h1) (RcAt.lists_lengths (eO sub g) (eO sub g') hn hu),λz_ z_=>RcNeAt.lists_lengths (eO sub g) (eO sub g') hn hu⟩
  ·intro a _ x y hx hy;obtain⟨z,its,m,rfl,g,r⟩:=hx.inv;cases hy.inv
   exact⟨⟨RcAt.list_none (eO sub g) hu,s7 (eO sub g) hu⟩,λz_=>nofun⟩
 induction fuel with
 | zero=>exact λhu h=>one none hu (λz_ e=>bR e) h
 | succ n ih=>
  intro p q k A hu h
  exact one (some (lZ n)) (aY (aT _ _) hu) (λf ef=>by
   cases ef
   exact⟨λc=>ih (by show A.units+1+n<cLine;rw[j3,lF 1 n];exact hu) c,λa b c=>Dz n a b c⟩) h
theorem xC{s:ah}(sub:∀ a o,G a=some o→s.heap.get? a=some o)(fuel:Nat){p q:PV}{x y:af}{k:Bool}{A:bC}(hu:A.units+fuel<cLine)(hx:cy Pm G x p)(hy:cy Pm G y q)(h:lZ fuel p q=some k):RcAt A s x y k∧EqAt A s x y k:=(zE sub fuel hu h x y hx hy).1
theorem xD{s:ah}(sub:∀ a o,G a=some o→s.heap.get? a=some o)(fuel:Nat){p q:PV}{x y:af}{k:Bool}{A:bC}(hu:A.units+fuel<cLine)(hx:cy Pm G x p)(hy:cy Pm G y q)(h:lZ fuel p q=some k)(s1:HE p=true:=by rfl)(s2:HE q=true:=by rfl):RcNeAt A s x y (!k):=(zE sub fuel hu h x y hx hy).2 s1 s2
open Classical in
theorem Cu{s:ah}(sub:∀ a o,G a=some o→s.heap.get? a=some o)(fuel:Nat){A:bC}(hu:A.units+fuel<cLine){x:af}{p:PV}(hx:cy Pm G x p)
  {its:List af}{ps:List PV}{k:Bool}(hr:bQ Pm G its ps)(h:o5 fuel p ps=some k):∃ e:af→Bool,(∀ y ∈ its,EqAt A s y x (e y))∧its.any e=k:=by
 have key:∀ {its k},bQ Pm G its ps→o5 fuel p ps=some k→(∀ y ∈ its,∃ b,EqAt A s y x b)∧cond k (∃ y ∈ its,EqAt A s y x true) (∀ y ∈ its,EqAt A s y x false):=by
  clear hr h
  induction ps with
  | nil=>intro its k hr h;cases hr.inv;cases h;exact⟨all_nil,all_nil⟩
  | cons q ps ih=>
   intro its k hr h
   obtain⟨v,vs,rfl,hv,hr⟩:=hr.inv
   obtain⟨b1,b2,h1,h2,rfl⟩:=qu h
   obtain⟨i1,i2⟩:=ih hr h2
   have Me:=(xC sub fuel hu hv hx h1).2
   refine⟨all_cons ⟨b1,Me⟩ i1,?_⟩
   cases b1 with
   | true=>exact⟨v,.head _,Me⟩
   | false=>cases b2 with
    | true=>obtain⟨y,hy,o⟩:=i2;exact⟨y,.tail _ hy,o⟩
    | false=>exact all_cons Me i2
 obtain⟨k1,k2⟩:=key hr h
 cases k with
 | true=>
  obtain⟨y,hy,o⟩:=k2
  refine⟨λy=>decide (EqAt A s y x true),λy hy=>?_,dG.mpr ⟨y,hy,decide_eq_true o⟩⟩
  show EqAt A s y x (decide _)
  by_cases q:EqAt A s y x true
  ·rw[decide_eq_true q];exact q
  ·obtain⟨b,hb⟩:=k1 y hy
   rw[decide_eq_false q]
   cases b with
   | true=>exact absurd hb q
   | false=>exact hb
 | false=>exact⟨λz_=>false,k2,List.any_eq_false.mpr λz_ z_=>gp⟩
end
end
section
open PySem.SeqAt
open Builtin
section
variable{S:Sx}{f:Fx}{sc:List (Str×aE)}{P:Pg}{ih:Ih}{n:Snap}
theorem nv(hf:f.Ok):f.A.units+200<cLine:=by
 have:=hf.room.units
 unfold cLine;exact aY (bD (aa (aT _ _) this) 200) (by decide)
theorem Jc{α:Type}:∀ (m:Nat) (u:α),(aI m [u]).flatten=aI m u:=by
 intro m u
 induction m with
 | zero=>rfl
 | succ m ih=>rw[List.replicate_succ,lE,ih];rfl
theorem vL{Pm:aV}{G:au→Option Obj}{v:af}{p:PV}(h:cy Pm G v p):∀ m,bQ Pm G (aI m v) (aI m p)
 | 0=>.nil
 | m+1=>by rw[List.replicate_succ,List.replicate_succ];exact .cons h (vL h m)
section
variable{prog:cP}{w:cE}{A:bC}{E:af→ah→Prop}{s:ah}{l:au}{Q:af→ah→Prop}
theorem mul_list{vs:List af}{k:Nat}{x:Int}{u:Tok}(ho:s.heap.get? l=some (fh vs k))(hlo: -(2 ^ 63:Int)≤x)(hhi:x<2 ^ 63)(hsz:vs.length*x.toNat≤2 ^ 24)
  (h:Q (.ref s.heap.objs.size) {s with heap:=s.heap.push (fh (aI x.toNat vs).flatten 0)}):wpAny (model prog w) A (binaryOp .Mult (.ref l) (.int x u)) Q E s:=by
 have hsz':vs.toArray.size*x.toNat≤2 ^ 24:=by simpa using hsz
 refine wpAny_binaryOp_repeat_ref (T:="list") (U:="int") (by decide) ⟨_,ho,rfl⟩ (λs'=>typeIs_int s' x u) noFill_list_mul F.fills_int_mul F.slot_int_rmul repeat_list F.slot_int_index.lookup
  (call_meets F.slot_int_rmul (typeIs_int s x u) F.entry_int_rmul (F.args_int_rmul_2 _ _) (lm_int_rmul_list_any x u l vs.toArray k none #[])
   ⟨ho,rfl,⟨_,ho,rfl⟩,call_meets F.slot_list_mul ⟨_,ho,rfl⟩ F.entry_list_mul (F.args_list_mul_2 _ _)
    (lm_list_mul_any l vs.toArray k none #[] x u (by simp[Builtin.List.listFitsIndex];exact⟨hlo,hhi⟩) (gb (aa hsz' (by decide))) (by simp[Builtin.List.listTooLong,sizeLine];exact hsz))
    ⟨ho,?_⟩⟩)
 rw[listMul_foldl_if]
 exact h
theorem CQ{b:au}{vs ws:List af}{k j:Nat}(ho:s.heap.get? l=some (fh vs k))(ho2:s.heap.get? b=some (fh ws j))(hsz:vs.length+ws.length≤2 ^ 24)
  (h:Q (.ref s.heap.objs.size) {s with heap:=s.heap.push (fh (vs++ws) 0)}):wpAny (model prog w) A (binaryOp .Add (.ref l) (.ref b)) Q E s:=by
 have e:vs.toArray++ws.toArray=(vs++ws).toArray:=by simp
 refine concat_meets ⟨_,ho,rfl⟩ ⟨_,ho2,rfl⟩ noFill_list_add seq_list_add PySem.F.slot_list_add PySem.F.entry_list_add (PySem.F.args_list_add_2 _ _) (list_addW l b vs.toArray ws.toArray k j none none #[] #[] (by unfold sizeLine;simpa using hsz)) ⟨ho,ho2,?_⟩
 rw[e]
 exact h
theorem E5{k:Int}{t u:Tok}{b:Array UInt8}(h0:0≤k)(h1:k<256)(h:Q (.bool (b.contains k.toNat.toUInt8)) s):
  wpAny (model prog w) A (compareOp .In (.int k t) (.bytes b u)) Q E s:=by
 refine in_gives (T:="bytes") (typeIs_bytes s b u) FB.slot_bytes_contains FB.entry_bytes_contains (FB.args_bytes_contains_2 _ _) ?_ h
 refine .of_wp λM A E s Q hq=>?_
 show wpAny M A (Bytes.containsIn "bytes.__contains__" (.bytes b u) (.int k t)>>=λr=>_) _ E s
 refine wpAny_bind ?_
 unfold Bytes.containsIn
 refine wpAny_bind ?_
 refine wpAny_of_eq (rfl:(asIndex (.int k t)).attempt=pure (.ok k)) ?_
 refine wpAny_bind (wpAny_of_eq KBy.buffer_eq ?_)
 dsimp only
 have hno:¬((decide (k<0)||decide (k≥256))=true):=by simp;exact⟨h0,h1⟩
 rw[if_neg hno]
 refine wpAny_pure (wpAny_pure ⟨_,rfl,hq⟩)
end
theorem Je(hf:(∃ σ,bu S f σ n))(o:Obj):∀ a ob,n.X.G a=some ob→(if a=n.h.objs.size then some o else n.X.G a)=some ob:=λa ob e=>by
 refine E1_1 hf λσ rel=>?_
 rw[if_neg];exact e
 intro IX
 subst IX
 have:=rel.inv.sub _ _ e
 rw[bJ] at this;exact bR this
theorem sz(m:Nat)(h:aO m aB=true):m+2≤sizeLine:=by rw[sizeLine_eq];exact aa (bD (gM h) 2) (by decide)
theorem Lo{m:Nat}(h:aO m aB=true):m≤sizeLine:=aa (aT m 2) (sz m h)
theorem szl{α:Type}{m:Nat}{l:List α}(e:l.length=m)(h:aO m aB=true):l.toArray.size≤sizeLine:=by rw[aG,e];exact Lo h
theorem HW{y:Int}{m:Nat}(hm:m=1)(h:aO y.natAbs aB=true): -(2 ^ 63:Int)≤y∧y<2 ^ 63∧m*y.toNat≤2 ^ 24:=by
 have hy:=gM h
 unfold aB at hy
 subst hm
 refine⟨?_,?_,?_⟩ <;> omega
theorem GW{a b:af}{x y:MV}(ha:aW n.X a x)(hb:aW n.X b y):Sd S f (dM S f (binaryOp .Add a b)) RV (L8 x y) n:=by
 refine eu (T:=λa=>dM S f (binaryOp .Add a b)) ha (λl i t=>?_) (fE (T:=λa=>dM S f (binaryOp .Add a b)) ha (λl xs t=>?_) (i_ (T:=λa=>dM S f (binaryOp .Add a b)) ha (λp hd=>?_) .no))
 ·exact eu (T:=λb=>dM S f (binaryOp .Add _ b)) hb (λl' j u=>Sd.ret λz_ g d tk os Q E H=>add_int (H _ _ (.pv .int))) .no
 ·refine fE (T:=λb=>dM S f (binaryOp .Add _ b)) hb (λl' ys u=>Sd.need λhc=>Sd.ret λz_ g d tk os Q E H=>KBy.add_bytes ?_ λt' k=>?_) .no
  ·rw[aS] at hc;have:=Lo hc;rw[sizeLine_eq] at this;simpa only[aG] using this
  ·rw[List.append_toArray];exact H _ _ (.pv .bytes)
 ·refine gZ (T:=λb=>dM S f (binaryOp .Add _ b)) hb (λys a its m g2 r2=>jh λo=>nF (λrev ⟨g1,own,r1⟩=>l6 λhc=>Sd.of' (Sd.l_ λex g d tk os Q E H=>?_)) iM) .no
  obtain⟨σ,rel⟩:=ex
  refine CQ g1 (rel.inv.sub _ _ g2) ?_ ?_
  ·rw[←av,r1.length,r2.length];exact aa (gM hc) (by decide)
  ·refine H _ _ _ rfl (.pv (.list (if_pos rfl) ?_))
   have r1':=r1.reverse
   rw[dZ] at r1'
   exact(r1'.append r2).mono (Je ⟨σ,rel⟩ _)
theorem HV{a b:af}{x y:MV}(ha:aW n.X a x)(hb:aW n.X b y):Sd S f (dM S f (binaryOp .Mult a b)) RV (mulM x y) n:=by
 refine eu (T:=λb=>dM S f (binaryOp .Mult a b)) hb (λl' k u=>?_) .no
 refine eu (T:=λa=>dM S f (binaryOp .Mult a _)) ha (λl i t=>?_) (fE (T:=λa=>dM S f (binaryOp .Mult a _)) ha (λl xs t=>?_) (gZ (T:=λa=>dM S f (binaryOp .Mult a _)) ha (λxs a its m g1 r=>?_) .no))
 ·exact Sd.need λhc=>Sd.ret λz_ g d tk os Q E H=>mul_int (H _ _ (.pv .int)) (wV hc)
 ·refine Bx λx hx=>Sd.need λhc=>Sd.ret λz_ g d tk os Q E H=>?_
  subst hx
  have hy:=gM hc
  unfold aB at hy
  refine bytes_mul_any (by simp) (by omega) (by omega) (by simp) λt' k=>?_
  rw[Jc]
  exact H _ _ (.pv .bytes)
 ·refine Bx λx hx=>Sd.need λhc=>Sd.l_ λ⟨σ,rel⟩ g d tk os Q E H=>?_
  subst hx
  refine E2_3 r.inv λv vs eV r1 r2=>?_
  subst eV
  cases r2.inv
  refine A3 (HW rfl hc) λh1 h2 h3=>?_
  refine mul_list (rel.inv.sub _ _ g1) h1 h2 (by simpa using h3) ?_
  rw[Jc]
  exact H _ _ _ rfl (.pv (.list (if_pos rfl) (vL (r1.mono (Je ⟨σ,rel⟩ _)) _)))
theorem G8{op:Operator}{a b:af}{x y:MV}(ha:aW n.X a x)(hb:aW n.X b y):Sd S f (dM S f (binaryOp op a b)) RV (Mi op x y) n:=by
 cases op with
 | Add=>exact GW ha hb
 | Sub=>exact eu (T:=λa=>dM S f (binaryOp .Sub a b)) ha (λl i t=>eu (T:=λb=>dM S f (binaryOp .Sub _ b)) hb (λl' j u=>Sd.ret λz_ g d tk os Q E H=>sub_int (H _ _ (.pv .int))) .no) .no
 | Mult=>exact HV ha hb
 | Mod=>exact eu (T:=λa=>dM S f (binaryOp .Mod a b)) ha (λl i t=>eu (T:=λb=>dM S f (binaryOp .Mod _ b)) hb (λl' j u=>Sd.need λhc=>Sd.ret λz_ g d tk os Q E H=>mod_int' (eW (Int.ne_of_lt (of_decide_eq_true hc))) (H _ _ (.pv .int))) .no) .no
 | _=>exact .no
end
end
section
open PySem.SeqAt
open Builtin
section
variable{S:Sx}{f:Fx}{sc:List (Str×aE)}{P:Pg}{ih:Ih}{n:Snap}
theorem zy{X:Rc}{v:af}{m:MV}(h:aW X v m)(h1:m≠ .pv .none)(h2:AN m=false):v≠ .none:=by
 cases h with
 | pv h=>cases h with
  | none=>exact absurd rfl h1
  | sv=>cases h2
  | _=>exact nofun
 | _=>exact nofun
theorem yQ{y x:Str}{t:Tok}:(Value.str y t).isStr x=bT y x:=by
 unfold Value.isStr
 cases h:bT y x with
 | true=>rw[bZ.mp h];exact beq_self_eq_true x
 | false=>exact beq_eq_false_iff_ne.mpr (iE h)
theorem qC(x y:Str)(t:Tok)(hh:Int)(v:af)(es:List dD):getL x (⟨hh,.str y t,v⟩::es)=cond (bT y x) (some (some v)) (getL x es):=by
 unfold getL
 rw[List.find?_cons]
 dsimp only
 rw[yQ]
 cases bT y x <;> rfl
theorem xx{Pm:aV}{G:au→Option Obj}{fs:List (Str×PV)}{x:Str}{m:PV}:∀ {es:List dD},Am Pm G es fs→lk fs x=some m→∃ v,getL x es=some (some v)∧cy Pm G v m:=by
 induction fs with
 | nil=>exact λz_ e=>bR e
 | cons p fs ih=>
  intro es h e
  refine E3_3 h.inv λt v es' rU h1 h2=>?_
  subst rU
  rw[qC]
  have e:cond (bT p.1 x) (some p.2) (lk fs x)=some m:=e
  cases hb:bT p.1 x with
  | true=>rw[hb] at e;cases e;exact⟨v,rfl,h1⟩
  | false=>rw[hb] at e;exact ih h2 e
section
variable{prog:cP}{w:cE}{A:bC}{E:af→ah→Prop}{s:ah}{Q:af→ah→Prop}
theorem eq_listA{a:au}{b:af}{Pm:aV}{G:au→Option Obj}{its:List af}{j:Nat}{rev ys:List PV}{r:Bool}(sub:∀ a o,G a=some o→s.heap.get? a=some o)(hu:A.units+70<cLine)
  (g:s.heap.get? a=some (fh its j))(hr:bQ Pm G its rev)(hb:cy Pm G b (.list ys))(h:lZ 61 (.list rev) (.list ys)=some r):RcAt A s (.ref a) b r∧RcNeAt A s (.ref a) b (!r):=by
 have sub':∀ c o,(λc=>if c=a then some (fh its j) else G c) c=some o→s.heap.get? c=some o:=λc o e=>by
  dsimp only at e
  split at e
  ·rename_i q;cases e;rw[q];exact g
  ·exact sub c o e
 by_cases hga:∀ o,G a=some o→o=fh its j
 ·have gm:∀ c o,G c=some o→(λc=>if c=a then some (fh its j) else G c) c=some o:=λc o e=>by
   dsimp only
   split
   ·rename_i q;subst q;rw[hga o e]
   ·exact e
  have h1:cy Pm (λc=>if c=a then some (fh its j) else G c) (.ref a) (.list rev):=.list (n:=j) (by simp) (hr.mono gm)
  have h2:=hb.mono gm
  exact⟨(xC sub' 61 (aY (bw (by decide) _) hu) h1 h2 h).1,xD sub' 61 (aY (bw (by decide) _) hu) h1 h2 h⟩
 ·exact absurd (λo e=>by have:=sub a o e;rw[g] at this;exact(aK this).symm) hga
end
theorem xS{X:Rc}{h:b9}{k:Nat}{as:List au}{bz:List (List PV)}(s:rV X h k as bz):as.length=bz.length:=rV.rec (motive:=λas bz z_=>as.length=bz.length) rfl (λz_ z_ z_ z_ t=>congrArg Nat.succ t) s
theorem eq_stack{A:bC}{s:ah}{X:Rc}{a:au}{k:Nat}{b:af}{as:List au}{bz:List (List PV)}{m:Nat}(hu:A.units<cLine)(sub:∀ a o,X.G a=some o→s.heap.get? a=some o)
  (g:s.heap.get? a=some (fh (as.reverse.map .ref) k))(st:rV X s.heap m as bz)(hb:cy X.P X.G b (.list [])):RcAt A s (.ref a) b bz.isEmpty∧RcNeAt A s (.ref a) b (!bz.isEmpty):=by
 cases hb with | list g' r'=>
 cases r' with | nil=>
 have hl:s.heap.IsList a (as.reverse.map fY).toArray:=⟨_,g,rfl,_,rfl⟩
 have hl':=eO sub g'
 have sl:=xS st
 cases bz with
 | nil=>
  have:as=[]:=kO.mp (by rw[sl];rfl)
  subst this
  exact⟨RcAt.lists (e:=λz_=>true) hl hl' rfl hu (λj h=>absurd h (by simp)),RcNeAt.lists (e:=λz_=>true) hl hl' rfl hu (λj h=>absurd h (by simp))⟩
 | cons r rs=>
  have ne:((as.reverse.map fY).toArray.size != ([]:List af).toArray.size)=true:=by
   simp only[aG,aC,av,nK,sl,bE]
   rfl
  exact⟨RcAt.lists_lengths hl hl' ne hu,RcNeAt.lists_lengths hl hl' ne hu⟩
theorem uP(b:List UInt8)(x:UInt8):b.toArray.contains x=b.contains x:=by simp
theorem HA{C C' d d':au}(h:some (instObj C d)=some (instObj C' d')):d=d':=by
 injection h with q
 injection q with _ q _ _
 injection q
theorem Ke{es es':List dD}{k k':Nat}(h:some (gR es k)=some (gR es' k')):es=es':=by
 injection h with q
 injection q with _ _ q _
 injection q with q _
 exact congrArg uD q
theorem KD{Pm:aV}{G:au→Option Obj}{v:af}{l l':Bool}{i j:Int}(h:cy Pm G v (.int l i))(h':cy Pm G v (.int l' j)):i=j:=by
 refine E1_1 h.inv λt nV=>?_
 subst nV
 refine E1_1 h'.inv λu e=>?_
 injection e
theorem FT{Pm:aV}{G:au→Option Obj}{v:af}{tag tag':Option au}{C C':au}{fs fs':List (Str×PV)}{x:Str}{l l':Bool}{i j:Int}(h:cy Pm G v (.obj tag C fs))(h':cy Pm G v (.obj tag' C' fs'))(e:lk fs x=some (.int l i))(e':lk fs' x=some (.int l' j)):i=j:=by
 refine E4_5 h.inv λz d es k DY z_ g1 g2 r=>?_
 subst DY
 refine E4_5 h'.inv λz' d' es' k' q z_ SG PO r'=>?_
 injection q with q
 subst q
 cases HA (g1.symm.trans SG)
 cases Ke (g2.symm.trans PO)
 refine E1_2 (xx r e) λv1 e1 r1=>?_
 refine E1_2 (xx r' e') λv2 e2 r2=>?_
 rw[e1] at e2
 cases e2
 exact KD r1 r2
theorem p8{b:Bool}(h:(!b)=true):b=false:=by cases b <;> first | rfl | exact gy h
theorem sj{op:pq}{g:Int→Int→Bool}{a b:af}{x y:MV}(ha:aW n.X a x)(hb:aW n.X b y)
  (h:∀ (i j:Int) (t u:Tok) (Q:af→ah→Prop) (E:af→ah→Prop) s,Q (.bool (g i j)) s→wpAny (model S.prog S.w) f.A (compareOp op (.int i t) (.int j u)) Q E s):Sd S f (dM S f (compareOp op a b)) RV (F4 g x y) n:=
 eu (T:=λa=>dM S f (compareOp op a b)) ha (λl i t=>eu (T:=λb=>dM S f (compareOp op _ b)) hb (λl' j u=>Sd.ret λz_ gg d tk os Q E H=>h i j t u Q E _ (H _ _ (.pv .bool))) .no) .no
theorem NK(b:Bool){A:bC}{s:ah}{u v:af}{r:Bool}(h:RcAt A s u v r∧RcNeAt A s u v (!r)){Q:af→ah→Prop}{E:af→ah→Prop}(hq:Q (.bool (cond b r (!r))) s):wpAny (model S.prog S.w) A (compareOp (cond b .Eq .NotEq) u v) Q E s:=by
 cases b with
 | true=>exact h.1 S.prog S.w E Q hq
 | false=>exact h.2 S.prog S.w E Q hq
noncomputable abbrev SH(b:Bool)(r:Bool):Bool:=cond b r (!r)
theorem EG(hf:f.Ok)(bb:Bool){b:af}{p:Nat}{ys:List PV}(hb:aW n.X b (.pv (.list ys))):Sd S f (dM S f (compareOp (cond bb .Eq .NotEq) (.ref (n.X.θ p)) b)) RV (Px (SH bb) p ys) n:=by
 have hu:=nv hf
 refine jh λo=>nF (λrev ⟨g1,own,r1⟩=>Sd.of' (Sd.ex λr hr=>Sd.ret λ⟨σ,rel⟩ g d tk os Q' E' H=>?_)) (qe (λbz ⟨g1,own,nd,st⟩=>Sd.of' (Bv (λe=>Sd.ret λ⟨σ,rel⟩ g d tk os Q' E' H=>?_) .no)) iM)
 ·have r1':=r1.reverse
  rw[dZ] at r1'
  exact NK bb (eq_listA (s:=⟨n.h,g,d,tk,os⟩) (A:=f.A) rel.inv.sub (aY (bw (by decide) _) hu) g1 r1' (nU hb) hr) (H _ _ (.pv .bool))
 ·subst e
  exact NK bb (eq_stack (s:=⟨n.h,g,d,tk,os⟩) (A:=f.A) (aY (aT _ _) hu) rel.inv.sub g1 st (nU hb)) (H _ _ (.pv .bool))
theorem rZ(hf:f.Ok){a b:af}{x y:MV}(ha:aW n.X a x)(hb:aW n.X b y):Sd S f (dM S f (compareOp .Eq a b)) RV (EU x y) n:=by
 have hu:=nv hf
 refine vN ha (λp hp=>vN hb (λq hq=>Sd.ex λr hr=>Sd.ret λ⟨σ,rel⟩ g d tk os Q E H=>?_) .no) .no
 exact(xC (s:=⟨n.h,g,d,tk,os⟩) (A:=f.A) rel.inv.sub 60 (aY (bw (by decide) _) hu) (nU hp) (nU hq) hr).1 S.prog S.w E Q (H _ _ (.pv .bool))
theorem Km(hf:f.Ok){a b:af}{x y:MV}(ha:aW n.X a x)(hb:aW n.X b y):Sd S f (dM S f (compareOp .Eq a b)) RV (Rj x y) n:=by
 refine eu (T:=λa=>dM S f (compareOp .Eq a b)) ha (λl i t=>?_) (qP (T:=λa=>dM S f (compareOp .Eq a b)) ha (λx t=>?_) (fE (T:=λa=>dM S f (compareOp .Eq a b)) ha (λl xs t=>?_) (i_ (T:=λa=>dM S f (compareOp .Eq a b)) ha (λp hd=>?_) (rZ hf ha hb))))
 ·exact eu (T:=λb=>dM S f (compareOp .Eq _ b)) hb (λl' j u=>Sd.ret λz_ g d tk os Q E H=>PyProof.Rows.eq_int (H _ _ (.pv .bool))) (rZ hf (.pv .int) hb)
 ·refine qP (T:=λb=>dM S f (compareOp .Eq _ b)) hb (λy u=>Sd.ret λz_ g d tk os Q E H=>PyProof.Rows.eq_str ?_) (rZ hf (.pv .str) hb)
  rw[←uf];exact H _ _ (.pv .bool)
 ·exact fE (T:=λb=>dM S f (compareOp .Eq _ b)) hb (λl' ys u=>Sd.ret λz_ g d tk os Q E H=>eq_bytes (H _ _ (.pv .bool))) (rZ hf (.pv .bytes) hb)
 ·cases y with
  | pv q=>cases q with
   | list ys=>exact EG hf true hb
   | _=>exact .no
  | _=>exact .no
theorem K3(hf:f.Ok){a b:af}{x y:MV}(ha:aW n.X a x)(hb:aW n.X b y):Sd S f (dM S f (compareOp .NotEq a b)) RV (RD x y) n:=by
 have hu:=nv hf
 refine eu (T:=λa=>dM S f (compareOp .NotEq a b)) ha (λl i t=>?_) (qP (T:=λa=>dM S f (compareOp .NotEq a b)) ha (λx t=>?_) (i_ (T:=λa=>dM S f (compareOp .NotEq a b)) ha (λp hd=>?_) ?_))
 ·exact eu (T:=λb=>dM S f (compareOp .NotEq _ b)) hb (λl' j u=>Sd.ret λz_ g d tk os Q E H=>PyProof.Rows.ne_int (H _ _ (.pv .bool))) .no
 ·refine qP (T:=λb=>dM S f (compareOp .NotEq _ b)) hb (λy u=>Sd.ret λz_ g d tk os Q E H=>PyProof.Rows.ne_str ?_) .no
  rw[bne, ←uf];exact H _ _ (.pv .bool)
 ·cases y with
  | pv q=>cases q with
   | list ys=>exact EG hf false hb
   | _=>exact .no
  | _=>exact .no
 ·cases x with
  | pv p=>cases p with
   | list x=>cases y with
    | pv q=>cases q with
     | list y=>exact Sd.ex λr hr=>Sd.ret λ⟨σ,rel⟩ g d tk os Q E H=>(xD (s:=⟨n.h,g,d,tk,os⟩) (A:=f.A) rel.inv.sub 60 (aY (bw (by decide) _) hu) (nU ha) (nU hb) hr) S.prog S.w E Q (H _ _ (.pv .bool))
     | _=>exact .no
    | _=>exact .no
   | tup x=>cases y with
    | pv q=>cases q with
     | tup y=>exact Sd.ex λr hr=>Sd.ret λ⟨σ,rel⟩ g d tk os Q E H=>(xD (s:=⟨n.h,g,d,tk,os⟩) (A:=f.A) rel.inv.sub 60 (aY (bw (by decide) _) hu) (nU ha) (nU hb) hr) S.prog S.w E Q (H _ _ (.pv .bool))
     | _=>exact .no
    | _=>exact .no
   | _=>exact .no
  | _=>exact .no
theorem vC{op:pq}{yes no:Bool}{a:af}{x:MV}(ha:aW n.X a x)(h1:∀ (Q:af→ah→Prop) (E:af→ah→Prop) s,Q (.bool yes) s→wpAny (model S.prog S.w) f.A (compareOp op .none .none) Q E s)
  (h2:a≠ .none→∀ (Q:af→ah→Prop) (E:af→ah→Prop) s,Q (.bool no) s→wpAny (model S.prog S.w) f.A (compareOp op a .none) Q E s):Sd S f (dM S f (compareOp op a .none)) RV (isNone yes no x) n:=by
 have key:x≠ .pv .none→Sd S f (dM S f (compareOp op a .none)) RV (M.when (!AN x) (M.ret (.pv (.bool true no)))) n:=λne=>
  bU λe=>Sd.ret λz_ g d tk os Q E H=>h2 (zy ha ne (p8 e)) _ _ _ (H _ _ (.pv .bool))
 cases x with
 | pv p=>cases p with
  | none=>
   cases GQ ha
   exact Sd.ret λz_ g d tk os Q E H=>h1 _ _ _ (H _ _ (.pv .bool))
  | _=>exact key nofun
 | _=>exact key nofun
theorem DK{t t':Option au}(h:JU t t'=true):∃ g,t=some g∧t'=some g:=by
 cases t with
 | none=>exact gy h
 | some g=>cases t' with
  | none=>exact gy h
  | some g'=>cases bX (m:=g) (n:=g') h;exact⟨g,rfl,rfl⟩
theorem Gp{a b:af}{x y:MV}(ha:aW n.X a x)(hb:aW n.X b y):Sd S f (dM S f (compareOp .Is a b)) RV (JM x y) n:=by
 refine Bw (T:=λa=>dM S f (compareOp .Is a b)) ha (λtag C fs p1=>?_) .no
 refine Bw (T:=λb=>dM S f (compareOp .Is a b)) hb (λtag' C' fs' p2=>gh λw hx=>?_) .no
 cases w with
 | int l i=>
  refine gh λw' hy=>?_
  cases w' with
  | int l' j=>
   refine Sd.need λhc=>Sd.ret λ⟨σ,rel⟩ gg d tk os Q E H=>?_
   refine E4_4 p1.inv λz d1 k1 c1 DY t1 g1 z_=>?_
   subst DY
   refine E4_4 p2.inv λz' d2 k2 c2 DY t2 g2 z_=>?_
   subst DY
   by_cases hxy:i=j
   ·rw[decide_eq_true hxy] at hc H
    refine E1_2 (DK hc) λg e1 e2=>?_
    cases t1 _ e1
    cases t2 _ e2
    exact wpAny_is_ref_self (H (.bool true) tk (.pv .bool))
   ·rw[decide_eq_false hxy] at H
    refine wpAny_is_ref_other (λq=>?_) (rel.inv.sub _ _ g1) (rel.inv.sub _ _ g2) nofun (H (.bool false) tk (.pv .bool))
    subst q
    exact hxy (FT p1 p2 hx hy)
  | _=>exact .no
 | _=>exact .no
theorem KC(hf:f.Ok){a b:af}{x y:MV}(ha:aW n.X a x)(hb:aW n.X b y):Sd S f (dM S f (compareOp .In a b)) RV (RA x y) n:=by
 have hu:f.A.in1.units+60<cLine:=by have:=nv hf;show f.A.units+1+60<cLine;exact aY (aa (aQ (j3 _ 1 60)) (bw (by decide) _)) this
 refine fE (T:=λb=>dM S f (compareOp .In a b)) hb (λl' ys u=>eu (T:=λa=>dM S f (compareOp .In a _)) ha (λl i t=>Sd.need λhc=>Sd.ret λz_ g d tk os Q E H=>?_) .no) (vN ha (λp hp=>?_) .no)
 ·refine A2 (aj.mp hc) λh1 h2=>?_
  refine E5 (of_decide_eq_true h1) (of_decide_eq_true h2) ?_
  rw[uP]
  exact H _ _ (.pv .bool)
 ·refine By (T:=λb=>dM S f (compareOp .In a b)) hb (λys w its m g2 r2=>Sd.ex λr hr=>Sd.ret λ⟨σ,rel⟩ g d tk os Q E H=>?_) (gZ (T:=λb=>dM S f (compareOp .In a b)) hb (λys w its m g2 r2=>Sd.ex λr hr=>Sd.ret λ⟨σ,rel⟩ g d tk os Q E H=>?_) .no)
  ·refine E1_2 (Cu (s:=⟨n.h,g,d,tk,os⟩) (A:=f.A.in1) rel.inv.sub 60 hu (nU hp) r2 hr) λe he hk=>?_
   exact in_tupleAt e (j9 (s:=⟨n.h,g,d,tk,os⟩) rel.inv.sub g2) (λy hy=>he y (by simpa using hy)) (by rw[sI,hk];exact H _ _ (.pv .bool))
  ·refine E1_2 (Cu (s:=⟨n.h,g,d,tk,os⟩) (A:=f.A.in1) rel.inv.sub 60 hu (nU hp) r2 hr) λe he hk=>?_
   exact in_listAt e (eO (s:=⟨n.h,g,d,tk,os⟩) rel.inv.sub g2) (λy hy=>he y (by simpa using hy)) (by rw[sI,hk];exact H _ _ (.pv .bool))
theorem rX(hf:f.Ok){op:pq}{a b:af}{x y:MV}(ha:aW n.X a x)(hb:aW n.X b y):Sd S f (dM S f (compareOp op a b)) RV (yw op x y) n:=by
 cases op with
 | Lt=>exact sj ha hb λi j t u Q E s h=>lt_int h
 | LtE=>exact sj ha hb λi j t u Q E s h=>le_int h
 | Gt=>exact sj ha hb λi j t u Q E s h=>gt_int h
 | GtE=>exact sj ha hb λi j t u Q E s h=>ge_int h
 | Eq=>exact Km hf ha hb
 | NotEq=>exact K3 hf ha hb
 | Is=>exact Cy (T:=λb=>dM S f (compareOp .Is a b)) hb (vC ha (λQ E s h=>is_none_none h) λne Q E s h=>is_none_ne ne h) (Gp ha hb)
 | IsNot=>exact Cy (T:=λb=>dM S f (compareOp .IsNot a b)) hb (vC ha (λQ E s h=>isnot_none_none h) λne Q E s h=>isnot_none_ne ne h) .no
 | In=>exact KC hf ha hb
 | NotIn=>exact .no
end
end
section
variable{S:Sx}{f:Fx}{sc:List (Str×aE)}{P:Pg}{ih:Ih}{n:Snap}
theorem uS(e:aJ)(r:List aJ)(env:Env):evalEach (e::r) env=eval e env::evalEach r env:=rfl
theorem M_{op:pq}{r:aJ}(h:lW r=false):behindInMarks op r=false:=by
 cases r <;> first | rfl | cases h
theorem tN{op:pq}{r:aJ}(h:lW r=false)(env:Env):markedEach [op] [r] (evalEach [r] env)=[eval r env]:=by
 rw[uS]
 show[markedBehindIn op r (eval r env)]=_
 rw[markedBehindIn_of_false (M_ h)]
theorem rm(op op':pq)(ops:List pq)(r r':aJ)(rs:List aJ)(env:Env):∃ t ts,markedEach (op::op'::ops) (r::r'::rs) (evalEach (r::r'::rs) env)=eval r env::t::ts∧markedEach (op'::ops) (r'::rs) (evalEach (r'::rs) env)=t::ts:=by
 cases ops <;> cases rs <;> exact⟨_,_,rfl,rfl⟩
theorem Et(hf:f.Ok)(hI:dX S f ih)(pos:Pos)(ops:List pq):∀ (rs:List aJ) (n:Snap) (a:af) (x:MV),aW n.X a x→
  Sd S f (WP S f (compareChain pos a ops (markedEach ops rs (evalEach rs f.env)))) RV (k_ ih ops x rs) n:=by
 induction ops with
 | nil=>exact λz_ z_ z_ z_ z_=>.no
 | cons op ops Qf=>
  intro rs n a x ha
  cases rs with
  | nil=>exact .no
  | cons r rs=>cases ops with
   | nil=>cases rs with
    | cons _ _=>exact .no
    | nil=>
     refine bU λhs=>Sd.imp (T:=λQ E s=>WP S f (eval r f.env) (λb s'=>WP S f (compareOp op a b) Q E s') E s) ?_ (λQ E s h=>?_)
     ·exact Sd.bind (R':=RV) (hI.ev r n) λn' ev b y hb=>(rX hf (ha.mono ev.le) hb).lift
     ·show aA _ _ (compareChain pos a [op] (markedEach [op] [r] (evalEach [r] f.env))) Q E s
      rw[tN (p8 hs)];exact xd h
   | cons op' ops=>cases rs with
    | nil=>exact .no
    | cons r' rs=>
     refine E2_2 (rm op op' ops r r' rs f.env) λt ts e1 e2=>?_
     refine Sd.imp (T:=λQ E s=>WP S f (eval r f.env) (λb s'=>WP S f (compareOp op a b) (λc s2=>WP S f (truthy c) (λd s3=>if d then WP S f (compareChain pos b (op'::ops) (markedEach (op'::ops) (r'::rs) (evalEach (r'::rs) f.env))) Q E s3 else Q c s3) E s2) E s') E s) ?_ (λQ E s h=>?_)
     ·refine Sd.bind (R':=RV) (hI.ev r n) λn1 jf b y hb=>?_
      refine Sd.bind (R':=RV) (rX hf (ha.mono jf.le) hb).lift λn2 iw c z hc=>?_
      refine Sd.bind (nI hc).lift λn3 pM d d' hd=>?_
      refine A2 hd λAf nV=>?_
      subst Af nV
      cases d with
      | true=>exact Qf (r'::rs) n3 b y ((hb.mono iw.le).mono pM.le)
      | false=>exact Sd.ret λz_ g d tk os Q E H=>H _ tk (.pv .bool)
     ·show aA _ _ (compareChain pos a (op::op'::ops) _) Q E s
      rw[e1]
      rw[e2] at h
      exact xe h
theorem n5{α β γ:Type}(m:M α)(k:α→M β)(j:β→M γ):(m.andThen k).andThen j=m.andThen λy=>(k y).andThen j:=by
 funext σ Q
 show m σ (pH k (pH j Q))=m σ (pH (λy=>(k y).andThen j) Q)
 have:pH k (pH j Q)=pH (λy=>(k y).andThen j) Q:=by
  funext r τ
  cases r <;> rfl
 rw[this]
theorem DL(hf:f.Ok)(hI:dX S f ih)(pos:Pos)(ops:List pq):∀ (rs:List aJ) (n:Snap) (a:af) (x:MV),aW n.X a x→
  Sd S f (WP S f (testChain pos a ops (markedEach ops rs (evalEach rs f.env)))) (oJ Bool) ((k_ ih ops x rs).andThen truth) n:=by
 induction ops with
 | nil=>exact λz_ z_ z_ z_ z_ σ Q z_ h=>h.elim
 | cons op ops Qf=>
  intro rs n a x ha
  cases rs with
  | nil=>exact λσ Q z_ h=>h.elim
  | cons r rs=>cases ops with
   | nil=>cases rs with
    | cons _ _=>exact λσ Q z_ h=>h.elim
    | nil=>
     cases hs:lW r with
     | true=>exact λσ Q z_ h=>(show False by
       have h:(M.when (!lW r) ((ih.ev r).andThen λb=>yw op x b)).andThen truth σ Q:=h
       rw[hs] at h;exact h).elim
     | false=>
      have e0:(k_ ih [op] x [r]).andThen truth=(ih.ev r).andThen λb=>(yw op x b).andThen truth:=by
       show(M.when (!lW r) ((ih.ev r).andThen λb=>yw op x b)).andThen truth=_
       rw[hs];exact n5 _ _ _
      rw[e0]
      refine Sd.imp (T:=λQ E s=>WP S f (eval r f.env) (λb s'=>WP S f (compareOp op a b) (λc s2=>WP S f (truthy c) Q E s2) E s') E s) ?_ (λQ E s h=>?_)
      ·refine Sd.bind (R':=RV) (hI.ev r n) (λn' ev b y hb=>?_)
       exact Sd.bind (R':=RV) (rX hf (ha.mono ev.le) hb).lift λn2 iw c z hc=>(z8 hc).lift
      ·show aA _ _ (testChain pos a [op] (markedEach [op] [r] (evalEach [r] f.env))) Q E s
       rw[tN hs];exact zk h
   | cons op' ops=>cases rs with
    | nil=>exact λσ Q z_ h=>h.elim
    | cons r' rs=>
     refine E2_2 (rm op op' ops r r' rs f.env) λt ts e1 e2=>?_
     have e0:(k_ ih (op::op'::ops) x (r::r'::rs)).andThen truth=(ih.ev r).andThen λb=>(yw op x b).andThen λc=>(truth c).andThen λd=>(cond d (k_ ih (op'::ops) b (r'::rs)) (M.ret (.pv (.bool true false)))).andThen truth:=by
      show((ih.ev r).andThen λb=>(yw op x b).andThen λc=>(truth c).andThen λd=>cond d (k_ ih (op'::ops) b (r'::rs)) (M.ret (.pv (.bool true false)))).andThen truth=_
      simp only[n5]
     rw[e0]
     refine Sd.imp (T:=λQ E s=>WP S f (eval r f.env) (λb s'=>WP S f (compareOp op a b) (λc s2=>WP S f (truthy c) (λd s3=>if d then WP S f (testChain pos b (op'::ops) (markedEach (op'::ops) (r'::rs) (evalEach (r'::rs) f.env))) Q E s3 else Q false s3) E s2) E s') E s) ?_ (λQ E s h=>?_)
     ·refine Sd.bind (R':=RV) (hI.ev r n) λn1 jf b y hb=>?_
      refine Sd.bind (R':=RV) (rX hf (ha.mono jf.le) hb).lift λn2 iw c z hc=>?_
      refine Sd.bind (nI hc).lift λn3 pM d d' hd=>?_
      refine A2 hd λAf nV=>?_
      subst Af nV
      cases d with
      | true=>exact Qf (r'::rs) n3 b y ((hb.mono iw.le).mono pM.le)
      | false=>exact Sd.ret (b:=false) λz_ g d tk os Q E H=>H _ tk rfl
     ·show aA _ _ (testChain pos a (op::op'::ops) _) Q E s
      rw[e1]
      rw[e2] at h
      exact zm h
theorem Ay(hf:f.Ok)(hI:dX S f ih)(l:aJ)(ops:List pq)(rs:List aJ)(pos:Pos)(n:Snap):
  Sd S f (WP S f (eval (.Compare l ops rs pos) f.env)) RV ((ih.ev l).andThen λa=>k_ ih ops a rs) n:=by
 refine Sd.imp (T:=λQ E s=>WP S f (eval l f.env) (λa s'=>WP S f (compareChain pos a ops (markedEach ops rs (evalEach rs f.env))) Q E s') E s) ?_ (λQ E s h=>?_)
 ·exact Sd.bind (R':=RV) (hI.ev l n) λn' ev a x ha=>Et hf hI pos ops rs n' a x ha
 ·show aA _ _ (do compareChain pos (←eval l f.env) ops (markedEach ops rs (evalEach rs f.env))) Q E s
  exact ai h
theorem zZ(hf:f.Ok)(hI:dX S f ih)(l:aJ)(ops:List pq)(rs:List aJ)(pos:Pos)(t:Sem af)(n:Snap):
  Sd S f (WP S f (isTrue (.Compare l ops rs pos) f.env t)) (oJ Bool) ((ih.ev l).andThen λa=>(k_ ih ops a rs).andThen truth) n:=by
 refine Sd.imp (T:=λQ E s=>WP S f (eval l f.env) (λa s'=>WP S f (testChain pos a ops (markedEach ops rs (evalEach rs f.env))) Q E s') E s) ?_ (λQ E s h=>?_)
 ·exact Sd.bind (R':=RV) (hI.ev l n) λn' ev a x ha=>DL hf hI pos ops rs n' a x ha
 ·show aA _ _ (do testChain pos (←eval l f.env) ops (markedEach ops rs (evalEach rs f.env))) Q E s
  exact ai h
theorem G9(hI:dX S f ih)(op:BoolOp)(pos:Pos)(es:List aJ):∀ (n:Snap),Sd S f (WP S f (eval (.BoolOp op es pos) f.env)) RV (I4 ih op es) n:=by
 induction es with
 | nil=>exact λn=>.no
 | cons e r ihr=>
  intro n
  cases r with
  | nil=>exact(hI.ev e n).imp λQ E s h=>w_ h
  | cons e' r=>cases op with
   | And=>
    refine Sd.imp (T:=λQ E s=>WP S f (eval e f.env) (λv s1=>WP S f (truthy v) (λc s2=>if c then WP S f (eval (.BoolOp .And (e'::r) pos) f.env) Q E s2 else Q v s2) E s1) E s) ?_ (λQ E s h=>w9 h)
    refine Sd.bind (R':=RV) (hI.ev e n) λn1 jf v x hv=>?_
    refine Sd.bind (nI hv).lift λn2 iw d d' hd=>?_
    obtain⟨rfl,rfl⟩:=hd
    cases d with
    | true=>exact ihr n2
    | false=>exact Sd.ret λz_ g d tk os Q E H=>H _ tk (.pv .bool)
   | Or=>
    refine Sd.imp (T:=λQ E s=>WP S f (eval e f.env) (λv s1=>WP S f (truthy v) (λc s2=>if c then Q v s2 else WP S f (eval (.BoolOp .Or (e'::r) pos) f.env) Q E s2) E s1) E s) ?_ (λQ E s h=>ze h)
    refine Sd.bind (R':=RV) (hI.ev e n) λn1 jf v x hv=>?_
    refine Sd.bind (nI hv).lift λn2 iw d d' hd=>?_
    obtain⟨rfl,rfl⟩:=hd
    cases d with
    | false=>exact ihr n2
    | true=>exact Sd.ret λz_ g d tk os Q E H=>H _ tk (.pv .bool)
theorem J1(hI:dX S f ih)(op:BoolOp)(pos:Pos)(whole:Sem af)(es:List aJ):∀ (n:Snap),Sd S f (WP S f (isTrue (.BoolOp op es pos) f.env whole)) (oJ Bool) (allM ih op es) n:=by
 induction es with
 | nil=>
  intro n
  cases op with
  | And=>exact Sd.ret (b:=true) λz_ g d tk os Q E H=>bS (isTrue_and_nil (H _ _ rfl))
  | Or=>exact Sd.ret (b:=false) λz_ g d tk os Q E H=>bS (isTrue_or_nil (H _ _ rfl))
 | cons e r ihr=>
  intro n
  cases op with
  | And=>
   refine Sd.imp (T:=λQ E s=>WP S f (isTrue e f.env (eval e f.env)) (λc s2=>if c then WP S f (isTrue (.BoolOp .And r pos) f.env whole) Q E s2 else Q false s2) E s) ?_ (λQ E s h=>vK (aN h λc s' h'=>by cases c <;> exact h'))
   refine Sd.bind (R':=oJ Bool) (hI.qg e n) λn1 jf v x hv=>?_
   cases hv
   cases v with
   | true=>exact ihr n1
   | false=>exact Sd.ret (b:=false) λz_ g d tk os Q E H=>H _ tk rfl
  | Or=>
   refine Sd.imp (T:=λQ E s=>WP S f (isTrue e f.env (eval e f.env)) (λc s2=>if c then Q true s2 else WP S f (isTrue (.BoolOp .Or r pos) f.env whole) Q E s2) E s) ?_ (λQ E s h=>vK (aN h λc s' h'=>by cases c <;> exact h'))
   refine Sd.bind (R':=oJ Bool) (hI.qg e n) λn1 jf v x hv=>?_
   cases hv
   cases v with
   | false=>exact ihr n1
   | true=>exact Sd.ret (b:=true) λz_ g d tk os Q E H=>H _ tk rfl
theorem E4(hI:dX S f ih)(t b o:aJ)(pos:Pos)(n:Snap):Sd S f (WP S f (eval (.IfExp t b o pos) f.env)) RV ((ih.qg t).andThen λd=>cond d (ih.ev b) (ih.ev o)) n:=by
 refine Sd.imp (T:=λQ E s=>WP S f (isTrue t f.env (eval t f.env)) (λc s2=>if c then WP S f (eval b f.env) Q E s2 else WP S f (eval o f.env) Q E s2) E s) ?_ (λQ E s h=>HY h)
 refine Sd.bind (R':=oJ Bool) (hI.qg t n) λn1 jf v x hv=>?_
 cases hv
 cases v with
 | true=>exact(hI.ev b n1)
 | false=>exact(hI.ev o n1)
theorem DN(hI:dX S f ih)(t b o:aJ)(pos:Pos)(whole:Sem af)(n:Snap):Sd S f (WP S f (isTrue (.IfExp t b o pos) f.env whole)) (oJ Bool) ((ih.qg t).andThen λd=>cond d (ih.qg b) (ih.qg o)) n:=by
 refine Sd.imp (T:=λQ E s=>WP S f (isTrue t f.env (eval t f.env)) (λc s2=>if c then WP S f (isTrue b f.env (eval b f.env)) Q E s2 else WP S f (isTrue o f.env (eval o f.env)) Q E s2) E s) ?_ (λQ E s h=>tO h)
 refine Sd.bind (R':=oJ Bool) (hI.qg t n) λn1 jf v x hv=>?_
 cases hv
 cases v with
 | true=>exact(hI.qg b n1)
 | false=>exact(hI.qg o n1)
theorem II(hI:dX S f ih)(e:aJ)(pos:Pos)(whole:Sem af)(n:Snap):Sd S f (WP S f (isTrue (.UnaryOp .Not e pos) f.env whole)) (oJ Bool) ((ih.qg e).andThen λd=>M.ret (!d)) n:=by
 refine Sd.imp (T:=λQ E s=>WP S f (isTrue e f.env (eval e f.env)) (λc s2=>Q (!c) s2) E s) ?_ (λQ E s h=>xg h)
 exact Sd.post (R':=oJ Bool) (R:=oJ Bool) (k:=λd=> !d) (U:=λd=> !d) (hI.qg e n) λn' ev a b h=>by cases h;rfl
theorem DT(hI:dX S f ih)(e:aJ)(n:Snap)(he:isTrue e f.env (eval e f.env)=(do let v ←eval e f.env;standAt e.pos;holding [v] (truthy v))):Sd S f (WP S f (isTrue e f.env (eval e f.env))) (oJ Bool) ((ih.ev e).andThen truth) n:=by
 refine Sd.imp (T:=λQ E s=>WP S f (eval e f.env) (λv s1=>WP S f (truthy v) Q E s1) E s) ?_ (λQ E s h=>tP h he)
 exact Sd.bind (R':=RV) (hI.ev e n) λn1 jf v x hv=>(z8 hv).lift
end
theorem yJ(F G:br)(k:Nat):cN (F++G) k=aF (cN F k) (λo=>some o) (cN G k):=by
 induction F with
 | nil=>rfl
 | cons p r ih=>
  show cond (aX p.1 k) (some p.2) (cN (r++G) k)=aF (cond (aX p.1 k) (some p.2) (cN r k)) (λo=>some o) (cN G k)
  cases aX p.1 k with
  | true=>rfl
  | false=>exact ih
theorem Dd(F:br)(ns:List Nat)(k:Nat):cN (EA F ns) k=cond (bL k ns) none (cN F k):=by
 induction ns with
 | nil=>rfl
 | cons n r ih=>
  show cN (iF (EA F r) n) k=cond (cond (aX n k) true (bL k r)) none (cN F k)
  rw[mP,ih]
  by_cases e:n=k
  ·cases e;rw[if_pos rfl,Nat.beq_refl];rfl
  ·rw[if_neg e,wk e];rfl
theorem mQ{F:br}{k:Nat}{o:eg}(h:cN F k=some o):(k,o) ∈ F∧k ∈ F.map (·.1):=by
 induction F with
 | nil=>exact bR h
 | cons p r ih=>
  have h:cond (aX p.1 k) (some p.2) (cN r k)=some o:=h
  cases e:aX p.1 k with
  | true=>rw[e] at h;cases h;cases bX e;exact⟨.head _,.head _⟩
  | false=>rw[e] at h;exact⟨.tail _ (ih h).1,.tail _ (ih h).2⟩
theorem sq{F:br}(ns:List Nat):∀ {G:br},pull F ns=some G→G.map (·.1)=ns∧∀ k o,cN G k=some o→cN F k=some o:=by
 induction ns with
 | nil=>intro G h;cases h;exact⟨rfl,λz_ z_ h=>bR h⟩
 | cons n r ih=>
  intro G h
  have h:aF (cN F n) (λo=>aF (pull F r) (λq=>some ((n,o)::q)) none) none=some G:=h
  cases h1:cN F n with
  | none=>rw[h1] at h;exact bR h
  | some o=>
   rw[h1] at h
   cases h2:pull F r with
   | none=>rw[h2] at h;exact bR h
   | some q=>
    rw[h2] at h
    cases h
    refine A2 (ih h2) λi1 i2=>?_
    refine⟨congrArg (n:: ·) i1,λk ob e=>?_⟩
    have e:cond (aX n k) (some o) (cN q k)=some ob:=e
    cases hb:aX n k with
    | true=>rw[hb] at e;cases e;cases bX hb;exact h1
    | false=>rw[hb] at e;exact i2 k ob e
theorem fQ{a b:Bool}(h:cond a b false=true):a=true∧b=true:=by cases a with | true=>exact⟨rfl,h⟩ | false=>exact gy h
structure Part(X X':Rc)(ns:List Nat):Prop where
 P:X'.P=X.P
 G:∀ a o,X.G a=some o→X'.G a=some o
 d:∀ k ∈ ns,k ∈ X'.dom
 θ:∀ k ∈ ns,X'.θ k=X.θ k
section
variable{X X':Rc}{ns:List Nat}(p:Part X X' ns)
include p
theorem yY{n:Nat}(e:bL n ns=true):aW X' (.ref (X.θ n)) (.loc n):=by have hn:=iI e;rw[←p.θ n hn];exact .loc (p.d n hn)
theorem aW.part{v m}(h:aW X v m):kh ns m=true→aW X' v m:=aW.rec (motive_1:=λv m z_=>kh ns m=true→aW X' v m) (motive_2:=λv m z_=>r9 ns m=true→bY X' v m)
 (λh z_=>.pv (by rw[p.P];exact h.mono p.G)) (λz_ e=>yY p e) (λg z_ r e=>.lX (p.G _ _ g) (r e)) (λz_=>.nil) (λz_ z_ a b e=>.cons (a (fQ e).1) (b (fQ e).2)) h
theorem bY.part{v m}(h:bY X v m):r9 ns m=true→bY X' v m:=bY.rec (motive_1:=λv m z_=>kh ns m=true→aW X' v m) (motive_2:=λv m z_=>r9 ns m=true→bY X' v m)
 (λh z_=>.pv (by rw[p.P];exact h.mono p.G)) (λz_ e=>yY p e) (λg z_ r e=>.lX (p.G _ _ g) (r e)) (λz_=>.nil) (λz_ z_ a b e=>.cons (a (fQ e).1) (b (fQ e).2)) h
theorem fW.part{es fs}(h:fW X es fs):iB ns fs=true→fW X' es fs:=fW.rec (motive:=λes fs z_=>iB ns fs=true→fW X' es fs) (λz_=>.nil)
 (λa z_ b e=>by rw[←p.P];exact .cons (a.part p (fQ e).1) (b (fQ e).2)) h
theorem dQ.part{es fs}(h:dQ X es fs):iB ns fs=true→dQ X' es fs:=dQ.rec (motive:=λes fs z_=>iB ns fs=true→dQ X' es fs) (λz_=>.nil) (λa z_ b e=>.cons (a.part p (fQ e).1) (b (fQ e).2)) h
set_option tactic.hygienic true in
theorem gQ.part{S:Sx}{h:b9}{n:Nat}{o:eg}(hn:n ∈ ns)(ho:∀ a,X.own a=some n→X'.own a=some n)(r:gQ S X h n o)(e:FQ ns o=true):gQ S X' h n o:=by
 have en:=p.θ n hn
 have o':X.own (X.θ n)=some n→X'.own (X'.θ n)=some n:=λo=>en▸ho _ o
 cases r with
 | inst g o d o2 r=>exact .inst (en.symm▸g) (o' o) d (ho _ o2) (r.part p e)
 | list g o r=>exact .list (en.symm▸g) (o' o) (by rw[p.P];exact r.mono p.G)
 | stack g o nd t=>exact .stack (en.symm▸g) (o' o) (en.symm▸nd) (rV.rec (motive:=λas bz z_=>rV X' h n as bz) .nil (λg o r z_ t=>.cons g (ho _ o) (by rw[p.P];exact r.mono p.G) t) t)
 | ba g o=>exact .ba (en.symm▸g) (o' o)
 | ja g o r=>exact .ja (en.symm▸g) (o' o) (by rw[p.P];exact r.mono p.G)
 | fZ g o r x=>exact .fZ (en.symm▸g) (o' o) r x
 | iT g o r=>exact .iT (en.symm▸g) (o' o) (by rw[p.P];exact r.mono p.G)
 | clos c=>
  obtain⟨d1,d2,g,rc,ga,da,gk,dk⟩:=c
  have m1:=iI (fQ e).1
  have m2:=iI (fQ e).2
  exact .clos ⟨p.d _ m1,p.d _ m2,en.symm▸p.G _ _ g,rc.mono p.G,p.G _ _ ga,by rw[p.θ _ m1];exact da,p.G _ _ gk,by rw[p.θ _ m2];exact dk⟩
 | tab g o t q=>
  refine .tab (en.symm▸g) (o' o) ?_ (en.trans q)
  rename_i made
  cases made with
  | false=>exact t
  | true=>obtain⟨c,h1,h2⟩:=t;exact⟨c,h1,h2.mono p.G⟩
end
theorem lV{ns:List Nat}{F:br}(h:ig ns F=true){k o}(e:cN F k=some o):FQ ns o=true:=by
 induction F with
 | nil=>exact bR e
 | cons p r ih=>
  obtain⟨h1,h2⟩:=fQ h
  have e:cond (aX p.1 k) (some p.2) (cN r k)=some o:=e
  cases hb:aX p.1 k with
  | true=>rw[hb] at e;cases e;exact h1
  | false=>rw[hb] at e;exact ih h2 e
theorem p6{dom:List Nat}{F:br}{k:Nat}:k ∈ newNames dom F ↔ k ∈ dom∨k ∈ F.map (·.1):=by
 induction F with
 | nil=>exact⟨.inl,λh=>h.resolve_right (λq=>jd q)⟩
 | cons p r ih=>
  show k ∈ cond (bL p.1 (newNames dom r)) (newNames dom r) (p.1::newNames dom r) ↔ _∨k ∈ p.1::r.map (·.1)
  rw[ay,or_left_comm, ←ih]
  cases h:bL p.1 (newNames dom r) with
  | true=>exact⟨.inr,λq=>q.elim (λe=>by rw[e];exact iI h) id⟩
  | false=>exact ay
theorem AD{ns dom:List Nat}{F:br}(e:AB ns dom F=true){k}(h:k ∈ F.map (·.1))(hd:k ∈ dom):k ∈ ns:=by
 induction F with
 | nil=>exact jd h
 | cons p r ih=>
  refine A2 (fQ e) λh1 h2=>?_
  rcases ay.mp h with rfl | h
  ·rcases Bool.or_eq_true_iff.mp h1 with z | z
   ·exact iI z
   ·rw[jZ hd] at z;exact gy z
  ·exact ih h2 h
noncomputable def j_(ns:List Nat)(o:Option Nat):Option Nat:=aF o (λk=>cond (bL k ns) (some k) none) none
theorem jB{ns:List Nat}{o:Option Nat}{k:Nat}(h:j_ ns o=some k):o=some k∧bL k ns=true:=by
 cases o with
 | none=>exact bR h
 | some j=>
  have h:cond (bL j ns) (some j) none=some k:=h
  cases e:bL j ns with
  | true=>rw[e] at h;cases h;exact⟨rfl,e⟩
  | false=>rw[e] at h;exact bR h
theorem qG{ns:List Nat}{k:Nat}(h:bL k ns=true):j_ ns (some k)=some k:=by show cond (bL k ns) (some k) none=_;rw[h];rfl
theorem AS{ns:List Nat}{k:Nat}(h:bL k ns=false):j_ ns (some k)=none:=by show cond (bL k ns) (some k) none=_;rw[h];rfl
noncomputable def qM(X:Rc)(ns:List Nat):Rc:={X with dom:=ns,own:=λa=>j_ ns (X.own a)}
noncomputable def yT(ns ms:List Nat)(o o':Option Nat):Option Nat:=aF o (λk=>cond (bL k ns) (j_ ms o') (some k)) (j_ ms o')
noncomputable def jM(X X':Rc)(ns:List Nat)(F:br):Rc:=
 {P:=X'.P,G:=X'.G,dom:=newNames X.dom F,θ:=λk=>cond (bL k (F.map (·.1))) (X'.θ k) (X.θ k),own:=λa=>yT ns (F.map (·.1)) (X.own a) (X'.own a)}
theorem tG{ns ms:List Nat}{o o':Option Nat}{k:Nat}(h:yT ns ms o o'=some k):(o=some k∧bL k ns=false)∨o'=some k:=by
 cases o with
 | none=>exact .inr (jB h).1
 | some j=>
  have h:cond (bL j ns) (j_ ms o') (some j)=some k:=h
  cases e:bL j ns with
  | true=>rw[e] at h;exact .inr (jB h).1
  | false=>rw[e] at h;cases h;exact .inl ⟨rfl,e⟩
section
variable{S:Sx}{f:Fx}{n:Snap}{σ:St}{ns:List Nat}{F:br}
theorem nk(X:Rc)(ns:List Nat):Part X (qM X ns) ns:=⟨rfl,λz_ z_ e=>e,λz_ h=>h,λz_ z_=>rfl⟩
theorem F8(rel:bu S f σ n)(hp:pull σ.foot ns=some F)(hi:ig ns F=true):CRel S f.fr F (F.map (·.1)) ⟨qM n.X ns,n.h⟩:=by
 refine A2 (sq ns hp) λe1 e2=>?_
 refine⟨⟨rel.inv.P,rel.inv.base,rel.inv.sub,λk o h=>?_,λa k h=>rel.inv.off a k (jB h).1⟩,e1.symm,λa ha=>?_,rel.frames⟩
 ·have hk:k ∈ ns:=by rw[←e1];exact(mQ h).2
  exact⟨hk,gQ.part (nk n.X ns) hk (λa ha=>(congrArg (j_ ns) ha).trans (qG (jZ hk))) (rel.inv.foot k o (e2 k o h)).2 (lV hi h)⟩
 ·refine A3 (rel.off a ha) λh1 h2 h3=>?_
  exact⟨congrArg (j_ ns) h1,h2,h3⟩
theorem yV(rel:bu S f σ n){F':br}{n':Snap}(ev:dB [] f.cZ [] ⟨qM n.X ns,n.h⟩ n')(wA:CRel S f.fr F' (F'.map (·.1)) n')(fit:AB ns σ.dom F'=true):
  n'.X.le (jM n.X n'.X ns F')∧dB [] f.cZ [] n ⟨jM n.X n'.X ns F',n'.h⟩∧bu S f {σ with foot:=F'++EA σ.foot ns,dom:=newNames σ.dom F'} ⟨jM n.X n'.X ns F',n'.h⟩:=by
 have RX:∀ k ∈ F'.map (·.1),(jM n.X n'.X ns F').θ k=n'.X.θ k:=λk hk=>by show cond (bL k (F'.map (·.1))) _ _=_;rw[jZ hk];rfl
 have le':n'.X.le (jM n.X n'.X ns F'):=⟨rfl,λz_ z_ e=>e,λk hk=>p6.mpr (.inr (wA.dom▸hk)),λk hk=>RX k (wA.dom▸hk)⟩
 have le:n.X.le (jM n.X n'.X ns F'):=by
  refine⟨ev.le.P,ev.le.G,λk hk=>p6.mpr (.inl hk),λk hk=>?_⟩
  by_cases q:k ∈ F'.map (·.1)
  ·exact(RX k q).trans (ev.le.θ k (AD fit q (rel.dom▸hk)))
  ·show cond (bL k (F'.map (·.1))) _ _=_;rw[Dm q];rfl
 have F7:∀ {a k},n.X.own a=some k→bL k ns=false→(qM n.X ns).own a=none:=λe hk=>(congrArg (j_ ns) e).trans (AS hk)
 have Dv:∀ {a},n.X.own a=none→(qM n.X ns).own a=none:=λe=>congrArg (j_ ns) e
 have NF:∀ {a k},n.X.own a=some k→bL k ns=false→(jM n.X n'.X ns F').own a=some k:=λ{a k} e hk=>by show yT _ _ (n.X.own a) _=_;rw[e];show cond (bL k ns) _ _=_;rw[hk];rfl
 have stays:∀ {a k},n.X.own a=some k→bL k ns=false→n'.X.own a=none∧n'.X.G a=none∧∀ o,n.h.get? a=some o→n'.h.get? a=some o:=λ{a k} e hk=>by
  refine fO λzz=>?_
  obtain⟨g1,ob,g2⟩:=rel.inv.off a k e
  refine zz ?_
  have p:=F7 e hk
  exact⟨ev.iD g2 p,q9 ev g2 p g1 (λh=>jd h),λo eo=>(ev.keep a o eo p (λh=>jd h)).1 λhf=>by have:=(rel.off a hf).1;rw[e] at this;exact Ag this⟩
 have QB:∀ {a k},n'.X.own a=some k→k ∈ F'.map (·.1)→(jM n.X n'.X ns F').own a=some k:=λ{a k} e hk=>by
  show yT ns (F'.map (·.1)) (n.X.own a) (n'.X.own a)=some k
  rw[e]
  cases q:n.X.own a with
  | none=>exact qG (jZ hk)
  | some j=>cases hj:bL j ns with
   | true=>show cond (bL j ns) _ _=_;rw[hj];exact qG (jZ hk)
   | false=>have:=(stays q hj).1;rw[e] at this;exact Ag this
 have pN:dB [] f.cZ [] n ⟨jM n.X n'.X ns F',n'.h⟩:=by
  refine⟨le,λb o e h1 h2=>ev.keep b o e (Dv h1) h2,ev.live,λa k e=>?_,λa o e=>?_⟩
  ·rcases tG e with h1 | h1
   ·exact .inl ⟨k,h1.1⟩
   ·exact(ev.mW a k h1).imp_left λ⟨k',z⟩=>⟨k',(jB z).1⟩
  ·exact(ev.jt a o e).imp_right λz=>z.imp_left λ⟨k',z⟩=>⟨k',(jB z).1⟩
 refine⟨le',pN,rel.pN pN ⟨ev.le.P.trans rel.inv.P,wA.inv.base,wA.inv.sub,λk o e=>?_,λa k e=>?_⟩ ?_ rfl rfl⟩
 ·rw[yJ] at e
  cases q:cN F' k with
  | some ob=>
   rw[q] at e
   cases e
   obtain⟨h1,h2⟩:=wA.inv.foot k _ q
   exact⟨le'.dom k h1,h2.mono le' h1 λa ha=>⟨QB ha (mQ q).2,λob e=>e⟩⟩
  | none=>
   rw[q] at e
   have e:cN (EA σ.foot ns) k=some o:=e
   rw[Dd] at e
   cases hk:bL k ns with
   | true=>rw[hk] at e;exact bR e
   | false=>
    rw[hk] at e
    obtain⟨h1,h2⟩:=rel.inv.foot k o e
    exact⟨le.dom k h1,h2.mono le h1 λa ha=>⟨NF ha hk,(stays ha hk).2.2⟩⟩
 ·rcases tG e with ⟨h1,h2⟩ | h1
  ·exact⟨(stays h1 h2).2.1,(rel.inv.off a k h1).2.elim λob g2=>ev.live a ob g2⟩
  ·exact wA.inv.off a k h1
 ·exact congrArg (λd=>newNames d F') rel.dom
theorem wZ{X X':Rc}{ns:List Nat}{F:br}{a:au}(h:X.own a=none)(h':X'.own a=none):(jM X X' ns F).own a=none:=by
 show yT _ _ (X.own a) (X'.own a)=none
 rw[h,h'];rfl
theorem H6{S:Sx}{F:br}{n:Snap}(I:Inv S F n){a:au}(h:n.h.get? a=none):n.X.own a=none:=by
 cases q:n.X.own a with
 | none=>rfl
 | some k=>obtain⟨_,o,e⟩:=I.off a k q;rw[h] at e;exact bR e
theorem yU(rel:bu S f σ n){F':br}{n':Snap}{t:List UInt8}{e:au}(fl:eN none t n.h e n'):eN f.L t n.h e ⟨jM n.X n'.X ns F',n'.h⟩:=
 have hb:∀ a,lR n.h n' a→lR n.h ⟨jM n.X n'.X ns F',n'.h⟩ a:=λa b=>⟨b.new,wZ (H6 rel.inv b.new) b.own,b.G⟩
 f7.map fl hb rfl λd vs w=>w.imp_right λt=>t.map hb λv q=>q.imp_right λ⟨_,z,_⟩=>bR z
theorem sW{A:bC}{v:af}{vs:List af}{kvs:List (Str×af)}{fv:MV}{args:List MV}{kw:List (Str×MV)}{Q:Res MV→St→Prop}
  (hA:1≤f.lv→CO A f.fr (f.lv-1)∧A.handled=none)(rel:bu S f σ n)(hv:aW n.X v fv)(hvs:bY n.X vs args)(hkv:dQ n.X kvs kw)(hm:M.call S f fv ns args kw σ Q):
  At S f (λQ E s=>dF (model S.prog S.w) A (.call v ⟨vs,kvs⟩) (λr s'=>match r with | .ok (.ret v)=>Q v s' | .ok _=>False | .error e=>E e s') s) RV Q n:=by
 have hm:aF (pull σ.foot ns) _ _:=hm
 cases hp:pull σ.foot ns with
 | none=>rw[hp] at hm;exact hm.elim
 | some F=>
 rw[hp] at hm
 refine A2 (h_ hm) λhc call=>?_
 refine A2 (aj.mp hc) λhc c5=>?_
 refine A2 (aj.mp hc) λhc c4=>?_
 refine A2 (aj.mp hc) λhc c3=>?_
 refine A2 (aj.mp hc) λc1 c2=>?_
 refine A2 (hA (gM c5)) λroom hh=>?_
 intro g d tk os Q' E' P'
 refine call.run A f.fr ⟨qM n.X ns,n.h⟩ v vs kvs g d tk os _ room hh (F8 rel hp c1)
  (hv.part (nk n.X ns) c4)
  (hvs.part (nk n.X ns) c2)
  (hkv.part (nk n.X ns) c3) λn' tk' F' ev wA=>?_
 refine⟨λm hq a ha=>?_,λt hq e fl=>?_⟩
 ·refine A2 (h_ hq) λfit hq=>?_
  refine A3 (yV rel ev wA fit) λle' pN rel'=>?_
  exact(P' _ tk' _ pN.wide rel').1 m hq a (ha.mono le')
 ·refine A2 (h_ hq) λfit hq=>?_
  refine A3 (yV rel ev wA fit) λle' pN rel'=>?_
  exact(P' _ tk' _ pN.wide rel').2 t hq e (yU rel fl)
theorem room_in(hf:f.Ok):1≤f.lv→CO f.A f.fr (f.lv-1)∧f.A.handled=none:=λh=>by
 obtain⟨a,b,c⟩:=hf.room
 exact⟨⟨a,by exact Rm (c:=0) h b (by decide),by exact Rm (c:=0) h c (by decide)⟩,hf.handled h⟩
theorem Gl(hf:f.Ok):1≤f.lv→CO f.A.in1 f.fr (f.lv-1)∧f.A.in1.handled=none:=λh=>by
 obtain⟨a,b,c⟩:=hf.room
 exact⟨⟨a,by show f.A.depth+_≤_;exact Rm (c:=0) h b (by decide),by show f.A.units+1+_≤_;exact Rm h c (by decide)⟩,hf.handled h⟩
end
section
variable{S:Sx}{f:Fx}{sc:List (Str×aE)}{P:Pg}{ih:Ih}{n:Snap}
theorem vq{X:Rc}{fs:List (Str×MV)}{x:Str}{m:MV}:∀ {es:List dD},fW X es fs→lk fs x=some m→∃ v,getL x es=some (some v)∧aW X v m:=by
 induction fs with
 | nil=>exact λz_ e=>bR e
 | cons p fs ih=>
  intro es h e
  refine E3_3 h.inv λt v es' rU h1 h2=>?_
  subst rU
  rw[qC]
  have e:cond (bT p.1 x) (some p.2) (lk fs x)=some m:=e
  cases hb:bT p.1 x with
  | true=>rw[hb] at e;cases e;exact⟨v,rfl,h1⟩
  | false=>rw[hb] at e;exact ih h2 e
theorem tu{X:Rc}{fs:List (Str×MV)}{x:Str}:∀ {es:List dD},fW X es fs→lk fs x=none→getL x es=some none:=by
 induction fs with
 | nil=>intro es h _;cases h.inv;rfl
 | cons p fs ih=>
  intro es h e
  refine E3_3 h.inv λt v es' rU h1 h2=>?_
  subst rU
  rw[qC]
  have e:cond (bT p.1 x) (some p.2) (lk fs x)=none:=e
  cases hb:bT p.1 x with
  | true=>rw[hb] at e;exact Ag e
  | false=>rw[hb] at e;exact ih h2 e
theorem sM{c:LB}{x:Str}(h:c.fields.any (bT x)=true):x ∈ c.fields:=by
 refine E1_2 (dG.mp h) λy hy e=>?_
 rw[bZ.mp e];exact hy
theorem tV{X:Rc}{v:af}{m:MV}(h:aW X v m)(hm:AN m=false):handedIn v=true:=by
 cases h with
 | pv h=>cases h <;> first | rfl | cases hm
 | loc=>rfl
 | lX=>rfl
theorem vt(hS:S.Ok)(O:ic S P)(kb:∀ b o,S.h₀.get? b=some o→n.h.get? b=some o){a d C:au}{es:List dD}{k:Nat}(h1:n.h.get? a=some (instObj C d))(h2:n.h.get? d=some (gR es k))
  {x:Str}{c:LB}{v:af}(hc:AW P.cls C=some c)(hx:c.fields.any (bT x)=true)(hv:getL x es=some (some v))(hh:handedIn v=true){g d' tk os}{Q:af→ah→Prop}{E:af→ah→Prop}{expr:Bool}(h:Q v ⟨n.h,g,d',tk+1,os⟩):
  wpAny (model S.prog S.w) f.A (getAttr (.ref a) x expr) Q E ⟨n.h,g,d',tk,os⟩:=by
 have OC:=O.cls C c hc
 have I:W.InstAt n.h a (instObj C d) C (some (gR es k)):=⟨h1,rfl,rfl,h2⟩
 exact get_value (s:=⟨n.h,g,d',tk,os⟩) (hS.X.keeps kb) I (plainGet_of OC.plain).1 (findObj_own (attr:=none) OC.hasDict (OC.field x (sM hx)) rfl (by rw[lookIn_dict];exact hv)) hh h
theorem AK(hS:S.Ok)(hf:f.Ok)(O:ic S P){p:Nat}(hd:p ∈ n.X.dom){C:au}{fs:List (Str×MV)}{x:Str}{expr:Bool}(oi:ye n.X n.h p C fs):Sd S f (WP S f (getAttr (.ref (n.X.θ p)) x expr)) RV (getInst S f P p C fs x) n:=by
 refine fO λzz=>?_
 obtain⟨g1,o1,g2,o2,fr⟩:=oi
 refine zz ?_
 refine gh λc hc=>ny (λv hv=>bU λhk=>?_) λz_=>gh λgg hg=>gh λns hns=>?_
 ·refine A2 (aj.mp hk) λhx hs=>?_
  refine Sd.ret λ⟨σ,rel⟩ g d tk os Q E H=>?_
  refine E1_2 (vq fr hv) λrv e1 r1=>?_
  exact bS (vt hS O rel.dU g1 g2 hc hx e1 (tV r1 (p8 hs)) (H _ _ r1))
 ·intro σ Q rel hm
  have OC:=O.cls C c hc
  refine E2_4 (OC.prop x gg hg) λpp rest f1 f2 f3 f4=>?_
  have XK:=hS.X.keeps rel.dU
  have Me:=sW (Gl hf) rel (v:=.ref gg) (vs:=[.ref (n.X.θ p)]) (kvs:=[]) (.pv .sv) (.cons (.loc hd) .nil) .nil hm
  intro g d tk os Q' E' P'
  refine Bb (s:=⟨n.h,g,d,tk,os⟩) XK ⟨g1,rfl,rfl,g2⟩ (plainGet_of OC.plain).1 (findObj_data (by obtain⟨cd,hcd,_⟩:=any_some OC.hasDict;rw[hcd];rfl) f1 f2 f3) (plainGet_of OC.plain).2
   (jo (Bc (s:=⟨n.h,g,d,tk+1,os⟩) XK f4 ?_))
  refine ni (Me g d (tk+1) os (λv s'=>aA (model S.prog S.w) f.A (handedOut v) Q' E' s') (λz_ z_=>False) λn' tk' σ' ev rel'=>⟨λb hb a ha=>?_,λt ht=>ht.elim⟩) λr s' z=>?_
  ·rw[handedOut_of (tV ha (yk hb).1)]
   exact aD ((P' n' tk' σ' ev rel').1 b (yk hb).2 a ha)
  ·rcases r with e | (v | _ | _ | _) <;> first | exact z | exact z.elim
theorem GK{hh:Int}{t:Tok}{v:af}:getL "told" [⟨hh,.str "told" t,v⟩]=some (some v):=by
 unfold getL
 simp[Value.isStr]
theorem Hq(hS:S.Ok)(hf:f.Ok)(O:ic S P){a:af}{o:MV}{x:Str}{expr:Bool}(ha:aW n.X a o):Sd S f (WP S f (getAttr a x expr)) RV (getM S f P o x) n:=by
 refine Lf (T:=λa=>WP S f (getAttr a x expr)) ha (λt ht=>bU λhb=>?_) (Bw (T:=λa=>WP S f (getAttr a x expr)) ha (λtag C fs ho=>gh λc hc=>gh λv hv=>bU λhk=>?_) (i_ (T:=λa=>WP S f (getAttr a x expr)) ha (λp hd=>?_) .no))
 ·cases bZ.mp hb
  refine Sd.ret λ⟨σ,rel⟩ g d tk os Q E H=>?_
  refine fO λzz=>?_
  obtain⟨a,oe,dd,t,u,k,rfl,g1,c1,d1,GU,g2⟩:=ht.inv
  refine zz ?_
  refine E1_1 GU λvs v1=>?_
  have e2:=rel.inv.sub _ _ g2
  exact bS (Hl (hS.X.keeps rel.dU) ⟨rel.inv.sub _ _ g1,c1,by unfold notCls;rw[v1],by rw[d1];exact e2⟩ O.exc.cls O.exc.ga O.exc.gt (findObj_own (attr:=none) (v:=.bytes _ u) O.exc.dict O.exc.told rfl (by rw[lookIn_dict];exact GK)) rfl (H _ _ (.pv .bytes)))
 ·refine A2 (aj.mp hk) λhx hs=>?_
  refine Sd.ret λ⟨σ,rel⟩ g d tk os Q E H=>?_
  refine E4_5 ho.inv λz dd es k DY z_ g1 g2 r=>?_
  subst DY
  refine E1_2 (xx r hv) λrv e1 r1=>?_
  exact bS <| vt hS O rel.dU (rel.inv.sub _ _ g1) (rel.inv.sub _ _ g2) hc hx e1 (tV (m:=.pv v) (.pv r1) (p8 hs)) (H _ _ (.pv r1))
 ·exact jh λo=>xO (λC fs oi=>Sd.of' (AK hS hf O hd oi)) iM
theorem G5(hS:S.Ok)(hf:f.Ok)(O:ic S P)(hI:dX S f ih)(v:aJ)(x:Str)(pos:Pos)(n:Snap):Sd S f (WP S f (eval (.Attribute v x pos) f.env)) RV (M.when (!r8 v) ((ih.ev v).andThen λo=>getM S f P o x)) n:=by
 refine bU λhb=>Sd.imp (T:=λQ E s=>WP S f (eval v f.env) (λo s'=>WP S f (getAttr o x true) Q E s') E s) ?_ (λQ E s h=>?_)
 ·exact Sd.bind (R':=RV) (hI.ev v n) λn' ev o m hm=>Hq hS hf O hm
 ·refine zd h ?_
  cases v <;> first | (exact gy hb;done) | with_unfolding_all rfl
end
section
variable{S:Sx}{f:Fx}{sc:List (Str×aE)}{P:Pg}{ih:Ih}{n:Snap}
theorem wc(vs:List PV):∀ {bs:List (List UInt8)},fC vs=some bs→bs.length=vs.length∧∀ i (h:i<bs.length),∃ l,vs[i]? =some (.bytes l bs[i]):=by
 induction vs with
 | nil=>intro bs e;cases e;exact⟨rfl,λi h=>nomatch h⟩
 | cons p r ihr=>
  intro bs e
  cases p with
  | bytes l b=>
   have e:aF (fC r) (λq=>some (b::q)) none=some bs:=e
   cases hq:fC r with
   | none=>rw[hq] at e;exact bR e
   | some q=>
    rw[hq] at e;cases e
    obtain⟨h1,h2⟩:=ihr hq
    refine⟨by rw[bE,bE,h1],λi h=>?_⟩
    cases i with
    | zero=>exact⟨l,rfl⟩
    | succ i=>exact h2 i (iP h)
  | _=>exact bR e
theorem mG(vs:List PV):∀ {bs:List Int},allInts vs=some bs→bs.length=vs.length∧∀ i (h:i<bs.length),∃ l,vs[i]? =some (.int l bs[i]):=by
 induction vs with
 | nil=>intro bs e;cases e;exact⟨rfl,λi h=>nomatch h⟩
 | cons p r ihr=>
  intro bs e
  cases p with
  | int l b=>
   have e:aF (allInts r) (λq=>some (b::q)) none=some bs:=e
   cases hq:allInts r with
   | none=>rw[hq] at e;exact bR e
   | some q=>
    rw[hq] at e;cases e
    obtain⟨h1,h2⟩:=ihr hq
    refine⟨by rw[bE,bE,h1],λi h=>?_⟩
    cases i with
    | zero=>exact⟨l,rfl⟩
    | succ i=>exact h2 i (iP h)
  | _=>exact bR e
theorem lP{slice:aJ}(h:lY slice=true)(o i:af):subscripted slice false o i=operate [o,i] (getItem o i):=by
 cases slice <;> first | rfl | exact gy h
theorem xK{k:Int}{m:Nat}(h0:0≤k)(h1:k.toNat<m):seqIndex? k m=some k.toNat:=by
 unfold seqIndex?
 have hn:¬k<0:=by exact gr.mpr h0
 simp only[hn,if_false]
 rw[if_pos (by simp;exact⟨h0,(lD h0).mp h1⟩)]
section
variable{prog:cP}{w:cE}{A:bC}{E:af→ah→Prop}{s:ah}{Q:af→ah→Prop}{value slice:aJ}
theorem r7{G:au→Option Obj}(sub:∀ a o,G a=some o→s.heap.get? a=some o)(hc:lY slice=true){a:au}{its:List af}{m:Nat}(g:G a=some (o8 its m)){k:Int}{u:Tok}{v:af}(h0:0≤k)(hk:k<2 ^ 63)(hv:its[k.toNat]? =some v)(h:Q v s):
  wpAny (model prog w) A (subscriptTail value slice (.ref a) (.int k u)) Q E s:=by
 have hl:k.toNat<its.length:=by
  rcases fq k.toNat its.length with h | h
  ·exact h
  ·rw[eZ h] at hv;exact bR hv
 exact item_tupleT (l:=its) (j:=k.toNat) ⟨_,sub _ _ g,rfl,m,rfl⟩ (bF (by decide) h0) hk (xK h0 hl) hv h (lP hc _ _)
theorem E0{G:au→Option Obj}(sub:∀ a o,G a=some o→s.heap.get? a=some o)(hc:lY slice=true){a:au}{its:List af}{m:Nat}(g:G a=some (fh its m)){k:Int}{u:Tok}{v:af}(h0:0≤k)(hk:k<2 ^ 63)(hv:its[k.toNat]? =some v)(h:Q v s):
  wpAny (model prog w) A (subscriptTail value slice (.ref a) (.int k u)) Q E s:=by
 have hl:s.heap.IsList a its.toArray:=⟨_,sub _ _ g,rfl,_,rfl⟩
 exact e8 hl.typeIs slot_list_getitem.lookup (wpAny_getItem_list hl h0 hk (by simpa using hv) h) (lP hc _ _)
theorem yP{G:au→Option Obj}(sub:∀ a o,G a=some o→s.heap.get? a=some o)(hc:lY slice=true){a:au}{its:List af}{m:Nat}(g:G a=some (fh its m)){u:Tok}{v:af}(hv:its.getLast? =some v)(h:Q v s):
  wpAny (model prog w) A (subscriptTail value slice (.ref a) (.int (-1) u)) Q E s:=by
 have hl:s.heap.IsList a its.toArray:=⟨_,sub _ _ g,rfl,_,rfl⟩
 have hne:its≠[]:=λe=>by rw[e] at hv;exact bR hv
 have hlen:0<its.length:=List.length_pos_iff.mpr hne
 refine e8 hl.typeIs slot_list_getitem.lookup (wpAny_getItem_list_neg (x:=v) hl ((by decide)) (by simp only[aG];exact Int.neg_le_neg (iN.mpr hlen)) ((by decide)) ?_ h) (lP hc _ _)
 rw[qo] at hv
 have e:((-1:Int)+(its.toArray.size:Int)).toNat=its.length-1:=by simp only[aG];exact(congrArg o9 (Int.add_comm _ _)).trans (Int.toNat_sub _ 1)
 rw[e];simpa using hv
end
theorem Ii{T:PT af}{its:List af}:∀ (vs:List PV) (i:Nat) (k:Int),0≤k→(∀ j p,vs[j]? =some p→∃ v,its[i+j]? =some v∧cy n.X.P n.X.G v p)→
  (∀ j p v,vs[j]? =some p→its[i+j]? =some v→k=jG (i+j)→(∃ σ,bu S f σ n)→∀ g d tk os (Q:af→ah→Prop) E,(∀ tk',aW n.X v (.pv p)→Q v ⟨n.h,g,d,tk',os⟩)→T Q E ⟨n.h,g,d,tk,os⟩)→Sd S f T RV (Cp vs i k) n:=by
 intro vs
 induction vs with
 | nil=>exact λi k z_ z_ z_=>.no
 | cons p vs ih=>
  intro i k h0 hr ht
  unfold Cp
  refine Sd.iff (λhb=>?_) (λhb=>?_)
  ·have hk:=of_decide_eq_true hb
   refine E1_2 (hr 0 p rfl) λv e r=>?_
   refine Sd.ret λex g d tk os Q E H=>ht 0 p v rfl e (by simpa using hk) ex g d tk os Q E λtk' hv=>H v tk' hv
  ·refine ih (i+1) k h0 (λj q hq=>?_) (λj q v hq hv hk=>?_)
   ·have:=hr (j+1) q (by simpa using hq)
    rwa [show i+(j+1)=i+1+j by exact(cY i j).symm] at this
   ·exact ht (j+1) q v (by simpa using hq) (by rwa [show i+(j+1)=i+1+j by exact(cY i j).symm]) (by rw[show i+(j+1)=i+1+j by exact(cY i j).symm];exact hk)
theorem xN{k:Int}{m:Nat}(h:k.toNat<m)(hm:m≤1099511627776):k<2 ^ 63:=by omega
theorem AM{k:Int}{m z:Nat}(hz:z≤1099511627776)(h:LH k m z=true):0≤k∧k.toNat<m∧k<2 ^ 63:=by
 refine A2 (aj.mp h) λq q3=>?_
 refine A2 (aj.mp q) λq1 q2=>?_
 exact⟨of_decide_eq_true q1,K1 q2,xN (K1 q2) (aa (gM q3) hz)⟩
theorem getD_at{α:Type}{l:List α}{i:Nat}{d:α}(h:i<l.length):l.getD i d=l[i]:=by rw[gu,cX h];rfl
theorem AY{α:Type}{l:List α}{i:Nat}{p:α}(h:l[i]? =some p):i<l.length:=by
 rcases fq i l.length with q | q
 ·exact q
 ·rw[eZ q] at h;exact bR h
theorem x7(p:Str×af)(es:List (Str×af))(x:Str):valueAt (p::es) x=cond (bT p.1 x) (some p.2) (valueAt es x):=by
 unfold valueAt
 rw[List.find?_cons]
 cases hb:bT p.1 x with
 | true=>rw[decide_eq_true (bZ.mp hb)];rfl
 | false=>rw[decide_eq_false (iE hb)];rfl
theorem Cr{Pm:aV}{G:au→Option Obj}{fs:List (Str×PV)}{x:Str}{p:PV}:∀ {es:List (Str×af)},rC Pm G es fs→lk fs x=some p→∃ v,valueAt es x=some v∧cy Pm G v p:=by
 induction fs with
 | nil=>exact λz_ e=>bR e
 | cons q fs ih=>
  intro es h e
  refine E2_3 h.inv λv es' eV h1 h2=>?_
  subst eV
  rw[x7]
  have e:cond (bT q.1 x) (some q.2) (lk fs x)=some p:=e
  cases hb:bT q.1 x with
  | true=>rw[hb] at e;cases e;exact⟨v,rfl,h1⟩
  | false=>rw[hb] at e;exact ih h2 e
theorem Hx{value slice:aJ}(hc:lY slice=true){vs:List PV}{a:au}{its:List af}{m:Nat}(g:n.X.G a=some (o8 its m))(r:bQ n.X.P n.X.G its vs)(l:Bool)(k:Int)(u:Tok):
  Sd S f (dM S f (subscriptTail value slice (.ref a) (.int k u))) RV (MN vs l k) n:=by
 refine kX (λz_=>?_) λz_=>ny (λbs hb=>Sd.need λhk=>?_) λz_=>ny (λis hb=>Sd.need λhk=>?_) λz_=>Sd.need λhk=>?_
 ·cases k with
  | negSucc j=>exact .no
  | ofNat j=>
   refine bU λhm=>gh λp hp=>Sd.ret λ⟨σ,rel⟩ gg d tk os Q E H=>?_
   refine E1_2 (r.get hp) λv e rv=>?_
   exact r7 (s:=⟨n.h,gg,d,tk,os⟩) rel.inv.sub hc g (cu j) (xN (m:=j+1) (f9 j) (aa (aH (gM hm)) (by decide))) e (H _ _ (.pv rv))
 ·refine A3 (AM (by decide) hk) λq1 q2 q3=>?_
  refine E1_1 ((wc vs hb).2 _ q2) λl e3=>?_
  refine Sd.ret λ⟨σ,rel⟩ gg d tk os Q E H=>?_
  refine E1_2 (r.get e3) λv e rv=>?_
  refine E1_1 rv.inv λt nV=>?_
  subst nV
  refine r7 (s:=⟨n.h,gg,d,tk,os⟩) rel.inv.sub hc g q1 q3 e (H _ _ ?_)
  rw[getD_at q2];exact .pv .bytes
 ·refine A3 (AM (by decide) hk) λq1 q2 q3=>?_
  refine E1_1 ((mG vs hb).2 _ q2) λl e3=>?_
  refine Sd.ret λ⟨σ,rel⟩ gg d tk os Q E H=>?_
  refine E1_2 (r.get e3) λv e rv=>?_
  refine E1_1 rv.inv λt nV=>?_
  subst nV
  refine r7 (s:=⟨n.h,gg,d,tk,os⟩) rel.inv.sub hc g q1 q3 e (H _ _ ?_)
  rw[getD_at q2];exact .pv .int
 ·refine A3 (AM (by decide) hk) λq1 q2 q3=>?_
  refine Ii (its:=its) vs 0 k q1 (λj p hp=>?_) (λj p v hp hv hk ex gg d tk os Q E H=>?_)
  ·rw[eG];exact r.get hp
  ·refine E1_1 ex λσ rel=>?_
   rw[eG] at hv hk
   refine E1_2 (r.get hp) λv' e rv=>?_
   rw[hv] at e
   cases e
   subst hk
   exact r7 (s:=⟨n.h,gg,d,tk,os⟩) rel.inv.sub hc g q1 q3 hv (H _ (.pv rv))
theorem Hv{value slice:aJ}(hc:lY slice=true){vs:List PV}{a:au}{its:List af}{m:Nat}(g:n.X.G a=some (fh its m))(r:bQ n.X.P n.X.G its vs)(l:Bool)(k:Int)(u:Tok):
  Sd S f (dM S f (subscriptTail value slice (.ref a) (.int k u))) RV (ML vs l k) n:=by
 refine kX (λz_=>?_) λz_=>Sd.need λhk=>Sd.ex λp hp=>Sd.ret λ⟨σ,rel⟩ gg d tk os Q E H=>?_
 ·cases k with
  | ofNat j=>exact .no
  | negSucc j=>
   refine bU λhm=>Sd.need λhz=>Sd.ex λp hp=>Sd.ret λ⟨σ,rel⟩ gg d tk os Q E H=>?_
   cases bX hm
   have tB:vs[vs.length-1]? =some p:=by rw[←qo];exact hp
   refine E1_2 (r.get tB) λv e rv=>?_
   refine yP (s:=⟨n.h,gg,d,tk,os⟩) rel.inv.sub hc g (v:=v) ?_ (H _ _ (.pv rv))
   rw[qo,r.length];exact e
 ·refine A2 (aj.mp hk) λq1 q2=>?_
  refine E1_2 (r.get hp) λv e rv=>?_
  exact E0 (s:=⟨n.h,gg,d,tk,os⟩) rel.inv.sub hc g (of_decide_eq_true q1) (xN (AY hp) (aa (gM q2) (by decide))) e (H _ _ (.pv rv))
theorem Hw(hf:f.Ok){value slice:aJ}(hc:lY slice=true){o i:af}{ov iv:MV}(ho:aW n.X o ov)(hi:aW n.X i iv):
  Sd S f (dM S f (subscriptTail value slice o i)) RV (KA ov iv) n:=by
 refine By (T:=λo=>dM S f (subscriptTail value slice o i)) ho (λvs a its m g r=>?_) (fE (T:=λo=>dM S f (subscriptTail value slice o i)) ho (λl b t=>?_) (gZ (T:=λo=>dM S f (subscriptTail value slice o i)) ho (λvs a its m g r=>?_) (i_ (T:=λo=>dM S f (subscriptTail value slice o i)) ho (λp hd=>?_) .no)))
 ·exact eu (T:=λi=>dM S f (subscriptTail value slice _ i)) hi (λl k u=>Hx hc g r l k u) .no
 ·refine eu (T:=λi=>dM S f (subscriptTail value slice _ i)) hi (λl k u=>Sd.need λhk=>Sd.ret λ⟨σ,rel⟩ gg d tk os Q E H=>?_) .no
  refine A2 (aj.mp hk) λq q3=>?_
  refine A2 (aj.mp q) λq1 q2=>?_
  have q3:=gM q3
  have q2:=K1 q2
  have q1:=of_decide_eq_true q1
  unfold aB at q3
  exact e8 (typeIs_bytes _ _ _) FB.slot_bytes_getitem.lookup (getItem_bytes (aa q3 (by decide)) q1 ((lD q1).mp q2) (H _ _ (.pv .int))) (lP hc _ _)
 ·exact eu (T:=λi=>dM S f (subscriptTail value slice _ i)) hi (λl k u=>Hv hc g r l k u) .no
 ·refine qP (T:=λi=>dM S f (subscriptTail value slice _ i)) hi (λx t=>jh λo=>zT (λfs ⟨g,own,r⟩=>Sd.of' (gh λp hv=>Sd.ret λ⟨σ,rel⟩ gg d tk os Q E H=>?_)) iM) .no
  refine E1_2 (Cr r hv) λv e rv=>?_
  have hm':=Heap.DictOf.mapOf g
  refine e8 (s:=⟨n.h,gg,d,tk,os⟩) hm'.typeIs PySem.slot_dict_getitem.lookup (wpAny_getItem_of (k:=x) (key:=.str x t) ?_ hm' e (H _ _ (.pv rv))) (lP hc _ _)
  show Value.isStrOf x (.str x t)=true
  simp[Value.isStrOf]
end
section
variable{S:Sx}{f:Fx}{sc:List (Str×aE)}{P:Pg}{ih:Ih}{n:Snap}
noncomputable abbrev Rc.jK(X:Rc)(a:au)(o:Obj):Rc:={X with G:=λc=>if c=a then some o else X.G c}
theorem AJ{S:Sx}{F:br}{n:Snap}(I:Inv S F n){h':b9}{a:au}{o:Obj}(kp:∀ b ob,n.h.get? b=some ob→h'.get? b=some ob)(ha:n.h.get? a=none)(ho:h'.get? a=some o)(own fr cl:List au):
  dB own fr cl n ⟨n.X.jK a o,h'⟩∧Inv S F ⟨n.X.jK a o,h'⟩:=by
 have hG:∀ c ob,n.X.G c=some ob→(if c=a then some o else n.X.G c)=some ob:=λc ob e=>by
  rw[if_neg];exact e
  rintro rfl
  have:=I.sub _ _ e
  rw[ha] at this;exact bR this
 have le:n.X.le (n.X.jK a o):=⟨rfl,hG,λz_ h=>h,λz_ z_=>rfl⟩
 refine⟨⟨le,λb ob e z_ z_=>⟨λz_=>kp b ob e,λz_=>⟨ob.slots,kp b ob e⟩⟩,λb ob e=>⟨ob,kp b ob e⟩,λc k hc=>.inl ⟨k,hc⟩,λc ob e=>?_⟩,
  I.P,λc ob e=>hG c ob (I.base c ob e),λc ob e=>?_,λj ob e=>?_,λc k e=>?_⟩
 ·dsimp only at e
  by_cases q:c=a
  ·exact .inr (.inr (.inl (q▸ha)))
  ·rw[if_neg q] at e;exact .inl e
 ·dsimp only at e
  by_cases q:c=a
  ·rw[if_pos q] at e;cases e;rw[q];exact ho
  ·rw[if_neg q] at e;exact kp _ _ (I.sub c ob e)
 ·obtain⟨h1,h2⟩:=I.foot j ob e
  exact⟨h1,h2.mono le h1 λb hb=>⟨hb,λob e=>kp b ob e⟩⟩
 ·refine⟨?_,(I.off c k e).2.elim λo e=>⟨o,kp c o e⟩⟩
  show(if c=a then some o else n.X.G c)=none
  rw[if_neg];exact(I.off c k e).1
  rintro rfl
  obtain⟨ob,e'⟩:=(I.off _ k e).2
  rw[ha] at e';exact bR e'
theorem Sd.frozen{α:Type}{T:PT α}{R:Rc→α→MV→Prop}{b:MV}(h:(∃ σ,bu S f σ n)→∀ g d tk os (Q':α→ah→Prop) E',
  (∀ h' a o tk' v,(∀ c ob,n.h.get? c=some ob→h'.get? c=some ob)→n.h.get? a=none→h'.get? a=some o→R (n.X.jK a o) v b→Q' v ⟨h',g,d,tk',os⟩)→T Q' E' ⟨n.h,g,d,tk,os⟩):Sd S f T R (M.ret b) n:=by
 intro σ Q rel hq g d tk os Q' E' P'
 refine h ⟨σ,rel⟩ g d tk os Q' E' λh' a o tk' v kp ha ho hr=>?_
 refine A2 (AJ rel.inv kp ha ho [] f.cZ []) λev inv=>?_
 exact(P' _ tk' σ ev.wide (rel.pN ev inv rel.dom rfl rfl)).1 _ hq v hr
theorem Sd.grown{α β:Type}{T:PT α}{R:Rc→α→β→Prop}{b:β}(h:(∃ σ,bu S f σ n)→∀ g d tk os (Q':α→ah→Prop) E',
  (∀ h' tk' v,(∀ c ob,n.h.get? c=some ob→h'.get? c=some ob)→R n.X v b→Q' v ⟨h',g,d,tk',os⟩)→T Q' E' ⟨n.h,g,d,tk,os⟩):Sd S f T R (M.ret b) n:=by
 intro σ Q rel hq g d tk os Q' E' P'
 refine h ⟨σ,rel⟩ g d tk os Q' E' λh' tk' v kp hr=>?_
 exact(P' ⟨n.X,h'⟩ tk' σ (dB.grow kp) (rel.pN (dB.grow kp) (rel.inv.grow kp) rel.dom rfl rfl)).1 _ hq v hr
theorem vz(hf:(∃ σ,bu S f σ n)){a:au}{o:Obj}(ha:n.h.get? a=none):∀ c ob,n.X.G c=some ob→(n.X.jK a o).G c=some ob:=λc ob e=>by
 refine E1_1 hf λσ rel=>?_
 show(if c=a then some o else n.X.G c)=some ob
 rw[if_neg];exact e
 intro IX
 subst IX
 have:=rel.inv.sub _ _ e
 rw[ha] at this;exact bR this
theorem Hg{α:Type}(l:List α)(lo hi:Option Int):oR lo hi l=(l.drop (lo.elim 0 o9)).take (hi.elim l.length o9-lo.elim 0 o9):=by
 unfold oR
 cases lo <;> cases hi <;> simp only[Option.elim,List.drop_zero,Nat.sub_zero,List.drop_take,e_]
 rw[uH (by rw[List.length_drop];exact bf _)]
theorem ED{α:Type}(l:List α)(a:Nat):l.drop (min a l.length)=l.drop a:=by
 rcases Nat.le_total a l.length with h | h
 ·rw[nN h]
 ·rw[Nat.min_eq_right h,uF (bf _),uF h]
theorem GF{α:Type}(l:List α)(a b:Nat):(l.drop a).take (min b l.length-min a l.length)=(l.drop a).take (b-a):=by
 rcases Nat.le_total a l.length with h | h
 ·rw[nN h]
  rcases Nat.le_total b l.length with h2 | h2
  ·rw[nN h2]
  ·rw[Nat.min_eq_right h2,uH (by rw[List.length_drop];exact bf _),uH (by rw[List.length_drop];exact Nat.sub_le_sub_right h2 a)]
 ·rw[uF h,List.take_nil,List.take_nil]
theorem qZ{α:Type}(l:List α)(lo hi:Option Int)(a b:Nat)(ha:a=min (lo.elim 0 o9) l.length)(hb:b=min (hi.elim l.length o9) l.length):(l.drop a).take (b-a)=oR lo hi l:=by
 rw[Hg,ha,hb,ED,GF]
theorem wB{lo hi:Option Int}{m:Nat}(h:uQ lo hi m=true):(∀ k,lo=some k→0≤k)∧(∀ k,hi=some k→0≤k)∧m≤aB:=by
 refine A2 (aj.mp h) λh h3=>?_
 refine A2 (aj.mp h) λh1 h2=>?_
 refine⟨λk e=>?_,λk e=>?_,gM h3⟩
 ·subst e;exact of_decide_eq_true h1
 ·subst e;exact of_decide_eq_true h2
theorem tU{b:List UInt8}{lo hi:Option Int}(h:uQ lo hi b.length=true):KBy.picked b.toArray lo hi=(oR lo hi b).toArray:=by
 refine A3 (wB h) λh1 h2 z_=>?_
 rw[KBc.picked_eq]
 congr 1
 refine qZ b lo hi _ _ ?_ ?_
 ·cases lo with
  | none=>simp
  | some k=>
   refine E1_1 (Int.eq_ofNat_of_zero_le (h1 k rfl)) λm nV=>?_
   subst nV
   show clipAt _ (m:Int)=min m _
   rw[clipAt_nat];simp
 ·cases hi with
  | none=>simp
  | some k=>
   refine E1_1 (Int.eq_ofNat_of_zero_le (h2 k rfl)) λm nV=>?_
   subst nV
   show clipAt _ (m:Int)=min m _
   rw[clipAt_nat];simp
theorem DE{its:List af}{lo hi:Option Int}(h:uQ lo hi its.length=true):slicePick its.toArray lo hi none=(oR lo hi its).toArray:=by
 refine A3 (wB h) λh1 h2 z_=>?_
 rw[kms_pick_eq]
 congr 1
 unfold kms_pick
 refine qZ its lo hi _ _ ?_ ?_
 ·cases lo with
  | none=>simp[kms_lo]
  | some k=>
   have:=h1 k rfl
   simp only[kms_lo,Option.elim]
   rw[if_neg (gr.mpr this)]
 ·cases hi with
  | none=>simp[kms_hi]
  | some k=>
   have:=h2 k rfl
   simp only[kms_hi,Option.elim]
   rw[if_neg (gr.mpr this)]
theorem bQ.cut{Pm:aV}{G:au→Option Obj}{vs:List af}{ms:List PV}(h:bQ Pm G vs ms)(lo hi:Option Int):bQ Pm G (oR lo hi vs) (oR lo hi ms):=by
 unfold oR
 cases lo <;> cases hi <;> first | exact h | exact(h.take _).drop _ | exact h.drop _ | exact h.take _
noncomputable abbrev jb(l u:af):Obj:={cls:=.type "slice",data:=.fields #[l,u,.none]}
theorem qK(h:b9)(o:Obj):h.get? (h.push o).objs.size=none:=by
 cases q:h.get? (h.push o).objs.size with
 | none=>rfl
 | some ob=>exact absurd (bB q) (by rw[eY];exact kI.mpr (cD _))
theorem wC{lo hi:Option Int}{m:Nat}(h:uQ lo hi m=true):m≤sizeLine:=by
 refine A3 (wB h) λz_ z_ hz=>?_
 rw[sizeLine_eq];exact aa hz (by decide)
theorem DC(hf:f.Ok){value:aJ}{lo hi:Option aJ}{p:Pos}{o l u:af}{ov:MV}{a b:Option Int}(ho:aW n.X o ov)(hl:IsPart l a)(hu:IsPart u b):
  Sd S f (λQ E s=>wpAny (model S.prog S.w) f.A (subscriptTail value (.Slice lo hi none p) o (.ref s.heap.objs.size)) Q E {s with heap:=s.heap.push (jb l u)}) RV (BD ov a b) n:=by
 refine fE (T:=λo Q E s=>wpAny (model S.prog S.w) f.A (subscriptTail value (.Slice lo hi none p) o (.ref s.heap.objs.size)) Q E {s with heap:=s.heap.push (jb l u)}) ho (λlit bs t=>Sd.need λhc=>Sd.grown λ⟨σ,rel⟩ g d tk os Q E H=>?_)
  (gZ (T:=λo Q E s=>wpAny (model S.prog S.w) f.A (subscriptTail value (.Slice lo hi none p) o (.ref s.heap.objs.size)) Q E {s with heap:=s.heap.push (jb l u)}) ho (λvs ad its m g1 r=>Sd.need λhc=>Sd.frozen λ⟨σ,rel⟩ g d tk os Q E H=>?_)
  (Gr (T:=λo Q E s=>wpAny (model S.prog S.w) f.A (subscriptTail value (.Slice lo hi none p) o (.ref s.heap.objs.size)) Q E {s with heap:=s.heap.push (jb l u)}) ho (λbs ad g1=>Sd.need λhc=>Sd.frozen λ⟨σ,rel⟩ g d tk os Q E H=>?_) .no))
 ·refine e8 (ops:=[.ref n.h.objs.size,.bytes bs.toArray t]) (typeIs_bytes _ _ _) FB.slot_bytes_getitem.lookup (getItem_meets (typeIs_bytes _ _ _) (by decide) FB.slot_bytes_getitem FB.entry_bytes_getitem (FB.args_bytes_getitem_2 _ _) (KBc.meets_slice2 bs.toArray t _ hl hu)
   ⟨Heap.IsSliceOf.new _ _ _ _,aa (KBc.size_picked_le _ a b) (by rw[aG];exact wC hc),λt' k=>H _ _ _ (λc ob e=>aq _ e) ?_⟩) rfl
  rw[tU hc];exact .pv .bytes
 ·have hc':uQ a b its.length=true:=by rw[r.length];exact hc
  have hi:=(eO (s:=⟨n.h,g,d,tk,os⟩) rel.inv.sub g1).push (jb l u)
  refine e8 (s:=⟨n.h.push (jb l u),g,d,tk,os⟩) (ops:=[.ref n.h.objs.size,.ref _]) hi.typeIs slot_list_getitem.lookup (wpAny_getItem_list_slice hi (Heap.IsSliceOf.new _ _ _ _) hl hu .none (by simp) ?_ (by rw[aG];exact wC hc')) rfl
  rw[DE hc']
  exact H _ _ (fh (oR a b its) 0) _ _ (λc ob e=>aq _ (aq _ e)) (qK _ _) (aL _ rfl) (.pv (.list (if_pos rfl) ((r.cut a b).mono (vz ⟨σ,rel⟩ (qK _ _)))))
 ·have g2:(n.h.push (jb l u)).get? ad=some (ie bs):=aq _ (rel.inv.sub _ _ g1)
  refine e8 (s:=⟨n.h.push (jb l u),g,d,tk,os⟩) (T:="bytearray") (ops:=[.ref n.h.objs.size,.ref _]) ⟨_,g2,rfl⟩ l5.lookup (HG g2 hl hu (Heap.IsSliceOf.new _ _ _ _) (wC hc) ?_) rfl
  rw[tU hc]
  exact H _ _ (J5 (oR a b bs)) _ _ (λc ob e=>aq _ (aq _ e)) (qK _ _) (aL _ rfl) (.pv (.ba (if_pos rfl)))
theorem F3(hI:dX S f ih)(e:Option aJ)(n:Snap):Sd S f (WP S f (valueOrNone (evalOpt e f.env))) (λz_ v k=>IsPart v k) (F2 ih e) n:=by
 cases e with
 | none=>exact Sd.ret λz_ g d tk os Q E H=>aD (H _ tk .none)
 | some e=>
  refine Sd.imp (T:=λQ E s=>WP S f (eval e f.env) (λv s'=>Q v s') E s) ?_ (λQ E s h=>h)
  refine Sd.bind (R':=RV) (U:=λv Q E s=>Q v s) (hI.ev e n) λn' ev v m hv=>?_
  exact eu (T:=λv Q E s=>Q v s) hv (λl k t=>Sd.ret λz_ g d tk os Q E H=>H _ tk (.int _ _)) .no
theorem Gv(hf:f.Ok)(hI:dX S f ih)(v:aJ)(lo hi:Option aJ)(p pos:Pos)(n:Snap):
  Sd S f (WP S f (eval (.Subscript v (.Slice lo hi none p) pos) f.env)) RV ((ih.ev v).andThen λo=>(F2 ih lo).andThen λa=>(F2 ih hi).andThen λb=>BD o a b) n:=by
 refine Sd.imp (T:=λQ E s=>WP S f (eval v f.env) (λo s1=>WP S f (valueOrNone (evalOpt lo f.env)) (λl s2=>WP S f (valueOrNone (evalOpt hi f.env)) (λu s3=>
  wpAny (model S.prog S.w) f.A (subscriptTail v (.Slice lo hi none p) o (.ref s3.heap.objs.size)) Q E {s3 with heap:=s3.heap.push (jb l u)}) E s2) E s1) E s) ?_ (λQ E s h=>?_)
 ·refine Sd.bind (R':=RV) (hI.ev v n) λn1 jf o m ho=>?_
  refine Sd.bind (F3 hI lo n1) λn2 iw l a hl=>?_
  refine Sd.bind (F3 hI hi n2) λn3 pM u b hu=>?_
  exact DC hf ((ho.mono iw.le).mono pM.le) hl hu
 ·refine mV (aN h λo s1 h1=>?_)
  rw[arm_eval_Slice]
  refine ai (aN h1 λl s2 h2=>ai (aM (aN h2 λu s3 h3=>ai (aM (aD ?_)))))
  exact bS (wpAny_newObj_type (bS h3))
end
section
open Builtin Builtin.ObjectAttr Builtin.Getset_descriptor
section
variable{S:Sx}{f:Fx}{sc:List (Str×aE)}{P:Pg}{ih:Ih}{n:Snap}
theorem vV{S:Sx}{F F':br}{n:Snap}(I:Inv S F n){ks:List Nat}{h':b9}{own':au→Option Nat}{G':au→Option Obj}(hk:∀ k ∈ ks,k ∈ n.X.dom)
  (kp:∀ b ob,n.h.get? b=some ob→(∀ k ∈ ks,n.X.own b≠some k)→h'.get? b=some ob)(lv:∀ b ob,n.h.get? b=some ob→∃ Ah,h'.get? b=some Ah)
  (o1:∀ a j,j ∉ ks→(own' a=some j ↔ n.X.own a=some j))(o2:∀ a k,k ∈ ks→own' a=some k→((∃ k' ∈ ks,n.X.own a=some k')∨n.h.get? a=none)∧G' a=none∧∃ o,h'.get? a=some o)
  (g1:∀ a o,n.X.G a=some o→G' a=some o)(g2:∀ a o,G' a=some o→n.X.G a=some o∨(((∃ k' ∈ ks,n.X.own a=some k')∨n.h.get? a=none)∧h'.get? a=some o))
  (hF:∀ j o,cN F' j=some o→(j ∉ ks∧cN F j=some o)∨(j ∈ ks∧gQ S {n.X with own:=own',G:=G'} h' j o))(fr:List au):
  dB [] fr [] n ⟨{n.X with own:=own',G:=G'},h'⟩∧Inv S F' ⟨{n.X with own:=own',G:=G'},h'⟩:=by
 have le:n.X.le {n.X with own:=own',G:=G'}:=⟨rfl,g1,λz_ h=>h,λz_ z_=>rfl⟩
 have gl:∀ a o,n.X.G a=some o→h'.get? a=some o:=λa o e=>kp a o (I.sub a o e) λk z_ q=>by rw[(I.off a k q).1] at e;exact bR e
 refine⟨⟨le,λb o e h1 z_=>?_,lv,λa j e=>?_,λa o e=>?_⟩,I.P,λa o e=>g1 a o (I.base a o e),λa o e=>?_,λj o e=>?_,λa j e=>?_⟩
 ·have:=kp b o e (λk z_=>by rw[h1];exact λq=>by exact bR q)
  exact⟨λz_=>this,λz_=>⟨o.slots,this⟩⟩
 ·have e:own' a=some j:=e
  by_cases q:j ∈ ks
  ·exact(o2 a j q e).1.imp (λ⟨k',_,h⟩=>⟨k',h⟩) id
  ·exact .inl ⟨j,(o1 a j q).mp e⟩
 ·have e:G' a=some o:=e
  rcases g2 a o e with z | ⟨⟨k',_,z⟩ | z,_⟩
  ·exact .inl z
  ·exact .inr (.inl ⟨k',z⟩)
  ·exact .inr (.inr (.inl z))
 ·rcases g2 a o e with z | ⟨_,z⟩
  ·exact gl a o z
  ·exact z
 ·rcases hF j o e with ⟨h1,h2⟩ | ⟨h1,h2⟩
  ·refine A2 (I.foot j o h2) λd r=>?_
   exact⟨d,r.mono le d λa ha=>⟨(o1 a j h1).mpr ha,λob e'=>kp a ob e' (λk hk=>by rw[ha];exact λq=>h1 (aK q▸hk))⟩⟩
  ·exact⟨hk j h1,h2⟩
 ·have e:own' a=some j:=e
  by_cases q:j ∈ ks
  ·exact⟨(o2 a j q e).2.1,(o2 a j q e).2.2⟩
  ·have e0:=(o1 a j q).mp e
   obtain⟨z1,ob,z2⟩:=I.off a j e0
   refine⟨?_,lv a ob z2⟩
   cases q':G' a with
   | none=>exact q'
   | some o=>
    rcases g2 a o q' with z | ⟨⟨k',hk',z⟩ | z,_⟩
    ·rw[z1] at z;exact bR z
    ·rw[e0] at z;exact absurd (aK z▸hk') q
    ·rw[z2] at z;exact Ag z
theorem lQ{S:Sx}{F F':br}{n:Snap}(I:Inv S F n){k:Nat}{h':b9}{own':au→Option Nat}{G':au→Option Obj}(hk:k ∈ n.X.dom)
  (kp:∀ b ob,n.h.get? b=some ob→n.X.own b≠some k→h'.get? b=some ob)(lv:∀ b ob,n.h.get? b=some ob→∃ Ah,h'.get? b=some Ah)
  (o1:∀ a j,j≠k→(own' a=some j ↔ n.X.own a=some j))(o2:∀ a,own' a=some k→(n.X.own a=some k∨n.h.get? a=none)∧G' a=none∧∃ o,h'.get? a=some o)
  (g1:∀ a o,n.X.G a=some o→G' a=some o)(g2:∀ a o,G' a=some o→n.X.G a=some o∨((n.X.own a=some k∨n.h.get? a=none)∧h'.get? a=some o))
  (hF:∀ j o,cN F' j=some o→(j≠k∧cN F j=some o)∨(j=k∧gQ S {n.X with own:=own',G:=G'} h' k o))(fr:List au):
  dB [] fr [] n ⟨{n.X with own:=own',G:=G'},h'⟩∧Inv S F' ⟨{n.X with own:=own',G:=G'},h'⟩:=
 vV (ks:=[k]) I (λj hj=>by rw[az.mp hj];exact hk) (λb ob e h=>kp b ob e (h k (.head _))) lv (λa j hj=>o1 a j (λq=>hj (by rw[q];exact .head _)))
  (λa j hj e=>by
   have hj:=az.mp hj
   subst hj
   obtain⟨z,r⟩:=o2 a e
   exact⟨z.imp_left λz=>⟨_,.head _,z⟩,r⟩) g1
  (λa o e=>(g2 a o e).imp_right λ⟨z,r⟩=>⟨z.imp_left λz=>⟨_,.head _,z⟩,r⟩)
  (λj o e=>(hF j o e).imp (λ⟨h1,h2⟩=>⟨λq=>h1 (az.mp q),h2⟩) λ⟨h1,h2⟩=>⟨by rw[h1];exact .head _,by rw[h1];exact h2⟩) fr
theorem iW{F:br}{k j:Nat}{o ob:eg}(e:cN (jV F k o) j=some ob):(j≠k∧cN F j=some ob)∨(j=k∧ob=o∧∃ o',cN F k=some o'):=by
 rw[EV] at e
 by_cases q:k=j
 ·rw[if_pos q] at e
  cases h:cN F k with
  | none=>rw[h] at e;exact bR e
  | some o'=>rw[h] at e;cases e;exact .inr ⟨q.symm,rfl,o',rfl⟩
 ·rw[if_neg q] at e;exact .inl ⟨eW q,e⟩
theorem nu{σ:St}(rel:bu S f σ n){k:Nat}{o o':eg}(ho:cN σ.foot k=some o){h':b9}(kp:∀ b ob,n.h.get? b=some ob→n.X.own b≠some k→h'.get? b=some ob)(lv:∀ b ob,n.h.get? b=some ob→∃ Ah,h'.get? b=some Ah)
  (r:gQ S n.X h' k o'):dB [] f.cZ [] n ⟨n.X,h'⟩∧bu S f {σ with foot:=jV σ.foot k o'} ⟨n.X,h'⟩:=by
 have hk:=(rel.inv.foot k o ho).1
 obtain⟨ev,inv⟩:=lQ (F':=jV σ.foot k o') (h':=h') (own':=n.X.own) (G':=n.X.G) rel.inv hk kp lv (λz_ z_ z_=>Iff.rfl)
  (λa ha=>⟨.inl ha,(rel.inv.off a k ha).1,(rel.inv.off a k ha).2.elim λo e=>lv a o e⟩) (λz_ z_ e=>e) (λz_ z_ e=>.inl e)
  (λj ob e=>(iW e).imp id λ⟨h1,h2,_⟩=>⟨h1,h2▸r⟩) f.cZ
 exact⟨ev,rel.pN ev inv rel.dom rfl rfl⟩
set_option tactic.hygienic true in
theorem DG{prog:cP}{w:cE}{A:bC}{E:af→ah→Prop}{s:ah}{K:Frag}{x C dx:au}{ox:Obj}{es:List dD}{k:Nat}{name:Str}{v:af}{Q:Unit→ah→Prop}(X:K.In s.heap)
  (I:W.InstAt s.heap x ox C (some (gR es k)))(hd:ox.dict=some dx)(hs:findIn K (.ref C) "__setattr__"=some (some (.builtin "object.__setattr__")))(hp:plainOver K C=true)(ht:takerIn K C name=some none)(hh:hasDictIn K C=true)
  (hl:(getL name es).isSome=true)(hz:es.length≤999)(D:s.heap.get? dx=some (gR es k))
  (h:∀ t,Q () {s with heap:=s.heap.update dx (j4 name (aU w.params name) (.str name t) v),toks:=t+1}):wpAny (model prog w) A (setAttr (.ref x) name v) Q E s:=by
 refine set_plain X I hs (osa_open (s:={s with toks:=s.toks+1}) X I hp ht λb=>?_)
 refine fO λzz=>?_
 obtain⟨cd,hc,hd'⟩:=any_some hh
 have e:=putName_dict name (aU w.params name) (.str name (s.toks+1)) v es k
 have D':(s.heap.update dx (j4 name (aU w.params name) (.str name (s.toks+1)) v)).get? dx=some (gR (putL name (aU w.params name) (.str name (s.toks+1)) v es) (putN name es k)):=by
  have:=dh (j4 name (aU w.params name) (.str name (s.toks+1)) v) D (by rw[show gR es k=dictOf es k from rfl,e];rfl)
  rw[show gR es k=dictOf es k from rfl,e] at this
  exact this
 obtain⟨hx,hcl,hn, -⟩:=I
 obtain⟨oc,Tv,Tu,osl⟩:=ox
 refine zz ?_
 dsimp only at hcl hd
 subst hcl hd
 refine wpAny_bind (wpAny_pure (wpAny_bind (wpAny_bind (wpAny_loadPart hx (wpAny_bind (looks_clsIn X hc _ _ _ _ (λz_ z_ e=>e) ?_))))))
 rw[hd']
 refine wpAny_pure (a:=some dx) (wpAny_bind (wpAny_pure (wpAny_bind ?_)))
 unfold nsSet
 refine wpAny_bind (wpAny_bind (wpAny_askSetting (wpAny_pure (wpAny_bind (wpAny_mkText (wpAny_bind (wpAny_loadPart D ?_)))))))
 dsimp only
 have c:(!es.toArray.any (·.key.isStr name)&&es.toArray.any (·.refKey))=false:=by
  unfold getL at hl
  rw[sI,sI]
  split at hl
  ·rename_i en he
   rw[dG.mpr ⟨en,List.mem_of_find?_eq_some he,List.find?_some he⟩];rfl
  ·split at hl
   ·exact gy hl
   ·rename_i z;rw[Bool.not_eq_true] at z;rw[z,Bool.and_false]
 rw[aRefKeyMayBeTheName_at,c]
 refine wpAny_updatePart D ?_
 refine wpAny_bind (wpAny_lookBehind D' ?_ ?_)
 ·refine pastItsLine_dict ?_
  have:∀ l:List dD,(putL name (aU w.params name) (.str name (s.toks+1)) v l).length≤l.length+1:=by
   intro l
   induction l with
   | nil=>exact bf _
   | cons a r ih=>
    unfold putL
    split
    ·simp
    ·simp only[bE];exact aH ih
  have:=this es
  rw[aG,sizeLine_eq];exact aa this (aa (aH hz) (by decide))
 ·exact wpAny_pure (h _)
theorem C_{X:Rc}{x:Str}{v:af}{m:MV}{t:Tok}(hv:aW X v m):∀ {es fs},fW X es fs→fW X (putL x (aU X.P x) (.str x t) v es) (Mine.put fs x m):=by
 intro es
 induction es with
 | nil=>intro fs h;cases h;exact .cons hv .nil
 | cons e es ih=>
  intro fs h
  cases h with
  | @cons y u w mw _ fs h r=>
  unfold putL Mine.put
  dsimp only
  rw[yQ]
  cases hb:bT y x with
  | true=>
   rw[if_pos rfl]
   exact .cons hv r
  | false=>
   rw[if_neg (by decide)]
   exact .cons h (ih r)
theorem zD{σ:St}(rel:bu S f σ n){k:Nat}{o o':eg}(ho:cN σ.foot k=some o){h':b9}{a:au}{ob:Obj}(own:n.X.own a=some k)(e1:h'.get? a=some ob)(hs:fM a n.h h')
  (r:gQ S n.X h' k o'):dB [] f.cZ [] n ⟨n.X,h'⟩∧bu S f {σ with foot:=jV σ.foot k o'} ⟨n.X,h'⟩:=
 nu rel ho (λb ob e hb=>(hs.2 b (λq=>hb (q▸own))).trans e)
  (λb ob e=>by
   by_cases q:b=a
   ·exact⟨_,q▸e1⟩
   ·exact⟨ob,(hs.2 b q).trans e⟩) r
theorem Iw(hS:S.Ok)(O:ic S P){o v:af}{ov m:MV}{x:Str}(ho:aW n.X o ov)(hv:aW n.X v m):Sd S f (dM S f (setAttr o x v)) (oJ Unit) (setM P ov x m) n:=by
 refine i_ (T:=λo=>dM S f (setAttr o x v)) ho (λp hd=>jh λob=>xO (λC fs ⟨g1,o1,g2,o2,fr⟩=>Gx λc hc=>nH λhx=>nH λhz=>?_) iM) .no
 intro σ Q rel hob hm
 rename_i dd es k
 have OC:=O.cls C c hc
 have kb:=rel.dU
 have hl:(getL x es).isSome=true:=by
  cases q:lk fs x with
  | none=>rw[tu fr q];rfl
  | some m'=>obtain⟨v',e,_⟩:=vq fr q;rw[e];rfl
 have ht:takerIn S.K C x=some none:=by unfold takerIn;rw[OC.field x (sM hx)];rfl
 intro g d tk os Q' E' P'
 refine DG (s:=⟨n.h,g,d,tk,os⟩) (hS.X.keeps kb) ⟨g1,rfl,rfl,g2⟩ rfl OC.setattr OC.over ht OC.hasDict hl (by rw[fr.length];exact aa (gM hz) (by decide)) g2 λt=>?_
 have e:=putName_dict x (aU S.w.params x) (.str x t) v es k
 have D':(n.h.update dd (j4 x (aU S.w.params x) (.str x t) v)).get? dd=some (gR (putL x (aU S.w.params x) (.str x t) v es) (putN x es k)):=by
  have:=dh (j4 x (aU S.w.params x) (.str x t) v) g2 (by rw[show gR es k=dictOf es k from rfl,e];rfl)
  rw[show gR es k=dictOf es k from rfl,e] at this
  exact this
 have keep:∀ b ob,b≠dd→n.h.get? b=some ob→(n.h.update dd (j4 x (aU S.w.params x) (.str x t) v)).get? b=some ob:=λb ob hb e=>(cg _ _ hb.symm).trans e
 have hne:n.X.θ p≠dd:=λq=>by rw[q,g2] at g1;cases g1
 obtain⟨ev,rel'⟩:=nu rel hob (o':=.inst C (Mine.put fs x m)) (h':=n.h.update dd (j4 x (aU S.w.params x) (.str x t) v)) (λb ob e hb=>keep b ob (λq=>hb (q▸o2)) e)
  (λb ob e=>by
   by_cases q:b=dd
   ·subst q;exact⟨_,D'⟩
   ·exact⟨ob,keep b ob q e⟩)
  (.inst (keep _ _ hne g1) o1 D' o2 (by rw[←rel.inv.P];exact C_ hv fr))
 exact(P' _ (t+1) _ ev.wide rel').1 () hm () rfl
end
end
section
variable{S:Sx}{f:Fx}{sc:List (Str×aE)}{P:Pg}{ih:Ih}{n:Snap}
theorem Ik{κ:Type}{Pm:aV}{G:au→Option Obj}{es:List (κ×af)}{fs:List (κ×PV)}(h:rC Pm G es fs):es.length=fs.length:=rC.rec (motive:=λes fs z_=>es.length=fs.length) rfl (λz_ z_ t=>congrArg Nat.succ t) h
theorem J2{es:List (Str×af)}{x:Str}{v:af}(e:valueAt es x=some v):(es.any λkv=>decide (kv.1=x))=true:=by
 unfold valueAt at e
 cases q:es.find? (λkv=>decide (kv.1=x)) with
 | none=>rw[q] at e;exact bR e
 | some kv=>exact dG.mpr ⟨kv,List.mem_of_find?_eq_some q,List.find?_some (p:=λkv:Str×af=>decide (kv.1=x)) q⟩
theorem Dy{Pm:aV}{G:au→Option Obj}{x:Str}{v:af}{m p:PV}(hv:cy Pm G v m){fs:List (Str×PV)}:∀ {es:List (Str×af)},rC Pm G es fs→(es.map (·.1)).Nodup→lk fs x=some p→rC Pm G (stored es x v) (Mine.put fs x m):=by
 induction fs with
 | nil=>exact λz_ z_ e=>bR e
 | cons q fs ih=>
  intro es h nd e
  refine E2_3 h.inv λw es' eV h1 h2=>?_
  subst eV
  rw[cG,bK] at nd
  have e:cond (bT q.1 x) (some q.2) (lk fs x)=some p:=e
  show rC Pm G _ (cond (bT q.1 x) ((q.1,m)::fs) (q::Mine.put fs x m))
  cases hb:bT q.1 x with
  | true=>
   cases bZ.mp hb
   unfold stored
   rw[if_pos (by rw[j0,decide_eq_true rfl,Bool.true_or]),cG,if_pos rfl,map_store_of_not_mem es' q.1 v nd.1]
   exact .cons hv h2
  | false=>
   rw[hb] at e
   refine E1_2 (Cr h2 e) λv' e' z_=>?_
   have hany:=J2 e'
   have i:=ih h2 nd.2 e
   unfold stored at i ⊢
   rw[if_pos hany] at i
   rw[if_pos (by rw[j0,hany,Bool.or_true]),cG,if_neg (iE hb)]
   exact .cons h1 i
theorem BA{o i v:af}{ov iv m:MV}(ho:aW n.X o ov)(hi:aW n.X i iv)(hv:aW n.X v m):Sd S f (dM S f (setItem o i v)) (oJ Unit) (CA ov iv m) n:=by
 refine i_ (T:=λo=>dM S f (setItem o i v)) ho (λp hd=>vN hv (λq hq=>?_) .no) .no
 refine qP (T:=λi=>dM S f (setItem _ i v)) hi (λx t=>jh λo=>zT (λfs ⟨g,own,r⟩=>Gx λp0 hx=>l6 λhz=>?_) iM) (eu (T:=λi=>dM S f (setItem _ i v)) hi (λl k t=>jh λo=>zS (λex m ⟨g,own,r,x⟩=>l6 λhz=>?_) iM) .no)
 ·intro σ Q rel hob hm gg d tk os Q' E' P'
  rename_i kvs
  have hnd:(kvs.map (·.1)).Nodup:=by obtain⟨_,_,_,_,_,_,_,_,h⟩:=g;exact h
  refine wpAny_setItem_pairs (s:=⟨n.h,gg,d,tk,os⟩) (k:=x) (key:=.str x t) (by show Value.isStrOf x (.str x t)=true;simp[Value.isStrOf]) g (λh' h1 h2=>?_) (by rw[sizeLine_eq,Ik r];exact aa (gM hz) (by decide))
  refine E3_2 h1 λo1 es1 Pu e1 er=>?_
  refine A2 (zD rel hob (o':=.ja (Mine.put fs x q)) own e1 h2 (.ja ⟨o1,es1,Pu,e1,er⟩ own (Dy (nU hq) r hnd hx))) λev rel'=>?_
  exact(P' _ (tk+1) _ ev.wide rel').1 () hm () rfl
 ·intro σ Q rel hob hm gg d tk os Q' E' P'
  refine wpAny_setItem_pairs (s:=⟨n.h,gg,d,tk,os⟩) (k:=k) (key:=.int k t) (by show Value.isInt k (.int k t)=true;simp[Value.isInt]) g (λh' h1 h2=>?_) (aa r (Lo hz))
  refine E3_2 h1 λo1 es1 Pu e1 er=>?_
  refine A2 (zD rel hob (o':=.fZ false (m+1)) own e1 h2 (.fZ ⟨o1,es1,Pu,e1,er⟩ own (aa (stored_length_le _ _ _) (aH r)) nofun)) λev rel'=>?_
  exact(P' _ (tk+1) _ ev.wide rel').1 () hm () rfl
theorem s_{h h':b9}{a:au}{m:Str→Option af}(hs:fM a h h')(hn:h'.Ns a m):∀ {l:List Env},h.FunFrames dS l→h'.FunFrames dS l
:=by
 intro l
 induction l with
 | nil=>exact λ_=>trivial
 | cons env r ih=>
  intro q
  refine A3 (show _∧_∧_ from q) λhk hx hr=>E2_4 hx λL o hf hb ho hd=>?_
  refine⟨hk,?_,ih hr⟩
  by_cases q:L=a
  ·refine E3_3 hn λo' es ep e1 e2 z_=>?_
   exact⟨L,o',hf,hb,q▸e1,λvs z=>by rw[e2] at z;cases z⟩
  ·exact⟨L,o,hf,hb,(hs.2 L q).trans ho,hd⟩
theorem pJ{x:Str}{c:au}:∀ {l:List (Str×au)},l.lookup x=some c→c ∈ l.map (·.2)
:=by
 intro l
 induction l with
 | nil=>intro e;exact bR e
 | cons p r ih=>
  intro e
  rw[mz] at e
  cases q:x == p.1 with
  | true=>rw[q] at e;rw[←aK e];exact .head _
  | false=>rw[q] at e;exact .tail _ (ih e)
theorem BZ{S:Sx}{F:br}{n:Snap}(I:Inv S F n){a:au}{h':b9}{ob:Obj}(hs:fM a n.h h')(ha:h'.get? a=some ob)(h1:n.X.own a=none)(h2:n.X.G a=none):Inv S F ⟨n.X,h'⟩:=by
 have g:∀ b o,b≠a→n.h.get? b=some o→h'.get? b=some o:=λb o hb e=>(hs.2 b hb).trans e
 refine⟨I.P,I.base,λb o e=>g b o (λq=>by rw[q,h2] at e;exact bR e) (I.sub b o e),λk o e=>⟨(I.foot k o e).1,(I.foot k o e).2.mono (.refl _) (I.foot k o e).1 λb hb=>⟨hb,λob e=>g b ob (λq=>by rw[q,h1] at hb;exact bR hb) e⟩⟩,
  λb k e=>⟨(I.off b k e).1,(I.off b k e).2.elim λo e'=>⟨o,g b o (λq=>by rw[q,h1] at e;exact bR e) e'⟩⟩⟩
theorem rW{own fr cl:List au}{n:Snap}{a:au}{h':b9}{ob:Obj}(hs:fM a n.h h')(ho:h'.get? a=some ob)(ha:a ∈ own):dB own fr cl n ⟨n.X,h'⟩:=
 ⟨.refl _,λb o e z_ hb=>by
  have e':=(hs.2 b (λq=>hb (q▸ha))).trans e
  exact⟨λz_=>e',λz_=>⟨o.slots,e'⟩⟩,λb o e=>by
  by_cases q:b=a
  ·subst q;exact⟨ob,ho⟩
  ·exact⟨o,(hs.2 b q).trans e⟩,λz_ k h=>.inl ⟨k,h⟩,λz_ z_ h=>.inl h⟩
theorem m_(hf:f.Ok){σ:St}(rel:bu S f σ n){x:Str}{v:af}{m:MV}(hv:aW n.X v m)(hk:f.env.kindOf x=some .local){h':b9}{mm:Str→Option af}
  (hm':(∀ y mv,lk σ.locs y=some mv→∃ v,aW n.X v mv∧match f.env.kindOf y with
   | some .local=>mm y=some v
   | some .cell | some .free=>∃ c o,f.env.cells.lookup y=some c∧n.X.G c=some o∧o.data= .cell (some v)
   | _=>False))
  (hn:h'.Ns f.env.locals (λy=>if y=x then some v else mm y))(hs:fM f.env.locals n.h h'):
  dB f.own f.cZ f.cl n ⟨n.X,h'⟩∧bu S f {σ with locs:=Mine.put σ.locs x m} ⟨n.X,h'⟩:=by
 refine A2 rel.kB λo1 o2=>?_
 refine E3_2 (id hn) λoL es ep e1 z_=>?_
 refine⟨rW hs e1 (.head _),⟨⟨BZ rel.inv hs e1 o1 o2,rel.dom,λa ha=>?_,s_ hs hn rel.frames⟩,?_,⟨o1,o2⟩,λc hc=>(rel.cells c hc).elim λo e=>(rW (fr:=[]) (cl:=[]) hs e1 (az.mpr rfl)).live c o e⟩⟩
 ·refine fO λzz=>?_
  obtain⟨p1,p2,Ah,p3⟩:=rel.off a ha
  refine zz ?_
  refine⟨p1,p2,?_⟩
  by_cases q:a=f.env.locals
  ·subst q;exact⟨oL,e1⟩
  ·exact⟨Ah,(hs.2 a q).trans p3⟩
 ·refine⟨_,hn,λy mv e=>?_,λy hy=>?_⟩
  ·have e:lk (Mine.put σ.locs x m) y=some mv:=e
   rw[Fl] at e
   by_cases q:x=y
   ·subst q
    rw[if_pos rfl] at e
    cases e
    exact⟨v,hv,by rw[hk];simp⟩
   ·rw[if_neg q] at e
    refine E1_2 (hm' y mv e) λv' hv' r=>?_
    refine⟨v',hv',?_⟩
    revert r
    cases f.env.kindOf y with
    | none=>exact id
    | some kk=>cases kk <;> intro r <;> first | exact r | (show(if y=x then some v else mm y)=some v';rw[if_neg (eW q)];exact r)
  ·refine E1_3 rel.locs λz_ z_ z_ h2=>?_
   refine fO λzz=>?_
   obtain⟨hkc,c,a1,a2,a3,ob,a4,a5⟩:=h2 y hy
   refine zz ?_
   have hc:c≠f.env.locals:=λq=>hf.apart _ (.head _) (q▸pJ a1)
   exact⟨hkc,c,a1,a2,a3,ob,(hs.2 c hc).trans a4,a5⟩
theorem yi(hf:f.Ok)(hn:f.env.scope.names=sc){x:Str}{pos:Pos}{v:af}{m:MV}(hk:lk sc x=some .local)(hv:aW n.X v m):
  Sd S f (dM S f (assign (.Name x pos) f.env v)) (oJ Unit) (λσ Q=>Q (.ok ()) {σ with locs:=Mine.put σ.locs x m}) n:=by
 intro σ Q rel hq g d tk os Q' E' P'
 refine E1_3 rel.locs λmm hm hl hu=>?_
 have hk':f.env.kindOf x=some .local:=by rw[ee hn,hk]
 have hp:(f.env.scope.kind == .class||(f.env.scope.kind == .module&&f.env.locals != f.env.globals))=false:=by rw[hf.kind];rfl
 refine wpAny_assign_Name (wpAny_storeName_local hk' hm (λh' hn hs=>?_) hp)
 refine A2 (m_ hf rel hv hk' hl hn hs) λev rel'=>?_
 exact(P' _ _ _ ev rel').1 () hq () rfl
end
section
variable{S:Sx}{f:Fx}{sc:List (Str×aE)}{P:Pg}{ih:Ih}{n:Snap}
theorem uX{x y:Str}{l:List Str}(h:y ∈ l.filter λz=> !bT x z):y ∈ l∧y≠x:=by
 refine A2 (List.mem_filter.mp h) λh1 h2=>?_
 refine⟨h1,λe=>?_⟩
 subst e
 rw[bZ.mpr rfl] at h2
 exact gy h2
theorem GY{x:Str}{l:List Str}(h:l.any (bT x)=true):x ∈ l:=by
 refine E1_2 (dG.mp h) λy hy e=>?_
 rw[bZ.mp e];exact hy
structure Fx.Apart(f:Fx):Prop where
 nodup:(f.env.cells.map (·.2)).Nodup
theorem tL{x y:Str}{c:au}:∀ {l:List (Str×au)},(l.map (·.2)).Nodup→l.lookup x=some c→l.lookup y=some c→x=y:=by
 have key:∀ {l:List (Str×au)}{x:Str},l.lookup x=some c→c ∈ l.map (·.2):=pJ
 intro l
 induction l with
 | nil=>intro _ e;exact bR e
 | cons p r ih=>
  intro nd e1 e2
  rw[cG,bK] at nd
  rw[mz] at e1 e2
  cases h1:x == p.1 with
  | true=>
   rw[h1] at e1
   cases h2:y == p.1 with
   | true=>exact(eq_of_beq h1).trans (eq_of_beq h2).symm
   | false=>rw[h2] at e2;exact absurd (aK e1▸key e2) nd.1
  | false=>
   rw[h1] at e1
   cases h2:y == p.1 with
   | true=>rw[h2] at e2;exact absurd (aK e2▸key e1) nd.1
   | false=>rw[h2] at e2;exact ih nd.2 e1 e2
theorem Es(hf:f.Ok)(hnd:(f.env.cells.map (·.2)).Nodup){σ:St}(rel:bu S f σ n){x:Str}{v:af}{m:MV}(hv:aW n.X v m)(hx:x ∈ σ.un){c:au}(hc:f.env.cells.lookup x=some c){h':b9}{oc:Obj}
  (ho:h'.get? c=some oc)(hd:oc.data= .cell (some v))(hs:fM c n.h h'):
  dB f.own f.cZ f.cl n ⟨n.X.jK c oc,h'⟩∧bu S f {σ with locs:=Mine.put σ.locs x m,un:=σ.un.filter λy=> !bT x y} ⟨n.X.jK c oc,h'⟩:=by
 refine E1_3 rel.locs λmm hm hl hu=>?_
 refine fO λzz=>?_
 obtain⟨hk,c',a1,a2,a3,ob,a4,a5⟩:=hu x hx
 rw[hc] at a1
 cases a1
 refine zz ?_
 have MA:=pJ hc
 have hG:∀ b o,n.X.G b=some o→(n.X.jK c oc).G b=some o:=λb o e=>by
  show(if b=c then some oc else n.X.G b)=some o
  rw[if_neg];exact e
  intro IX
  subst IX
  rw[a3] at e;exact bR e
 have le:n.X.le (n.X.jK c oc):=⟨rfl,hG,λz_ h=>h,λz_ z_=>rfl⟩
 have g:∀ b o,b≠c→n.h.get? b=some o→h'.get? b=some o:=λb o hb e=>(hs.2 b hb).trans e
 have hne:f.env.locals≠c:=λq=>hf.apart _ (.head _) (q▸MA)
 have jt:∀ b o,b≠c→(n.X.jK c oc).G b=some o→n.X.G b=some o:=λb o hb e=>by
  have e:(if b=c then some oc else n.X.G b)=some o:=e
  rw[if_neg hb] at e;exact e
 have ev:dB f.own f.cZ f.cl n ⟨n.X.jK c oc,h'⟩:=by
  refine⟨le,λb o e z_ hb=>?_,λb o e=>?_,λz_ k h=>.inl ⟨k,h⟩,λb o e=>?_⟩
  ·have e':=g b o (λq=>hb (q▸dj _ MA)) e
   exact⟨λz_=>e',λz_=>⟨o.slots,e'⟩⟩
  ·by_cases q:b=c
   ·subst q;exact⟨oc,ho⟩
   ·exact⟨o,g b o q e⟩
  ·by_cases q:b=c
   ·exact .inr (.inr (.inr (q▸MA)))
   ·exact .inl (jt b o q e)
 refine⟨ev,⟨⟨⟨rel.inv.P,λb o e=>hG b o (rel.inv.base b o e),λb o e=>?_,λk o e=>?_,λb k e=>?_⟩,rel.dom,λa ha=>?_,?_⟩,?_,⟨?_,?_⟩,λc' hc'=>(rel.cells c' hc').elim λo e=>ev.live c' o e⟩⟩
 ·by_cases q:b=c
  ·subst q
   have e:(if b=b then some oc else n.X.G b)=some o:=e
   rw[if_pos rfl] at e;cases e;exact ho
  ·exact g b o q (rel.inv.sub b o (jt b o q e))
 ·exact⟨(rel.inv.foot k o e).1,(rel.inv.foot k o e).2.mono le (rel.inv.foot k o e).1 λb hb=>⟨hb,λob e=>g b ob (λq=>by rw[q,a2] at hb;exact bR hb) e⟩⟩
 ·refine fO λzz=>?_
  obtain⟨z1,o,z2⟩:=rel.inv.off b k e
  refine zz ?_
  have hb:b≠c:=λq=>by rw[q,a2] at e;exact bR e
  refine⟨?_,o,g b o hb z2⟩
  show(if b=c then some oc else n.X.G b)=none
  rw[if_neg hb];exact z1
 ·refine fO λzz=>?_
  obtain⟨p1,p2,Ah,p3⟩:=rel.off a ha
  refine zz ?_
  have hac:a≠c:=λq=>hf.apart a (dj _ ha) (q▸MA)
  refine⟨p1,?_,Ah,g a Ah hac p3⟩
  show(if a=c then some oc else n.X.G a)=none
  rw[if_neg hac];exact p2
 ·have:∀ {l:List Env},n.h.FunFrames dS l→(∀ a ∈ l.filterMap (·.frame),a≠c)→h'.FunFrames dS l:=by
   intro l
   induction l with
   | nil=>intro _ _;trivial
   | cons env r ih=>
    intro IX hh
    refine A3 IX λhk GS hr=>?_
    refine E2_4 GS λL o hf hn ho hd=>?_
    exact⟨hk,⟨L,o,hf,hn,g L o (hh L (by simp[hf])) ho,hd⟩,ih hr λa ha=>hh a (by rw[eK,hf];exact dj _ ha)⟩
  exact this rel.frames λa ha q=>hf.apart a (dj _ ha) (q▸MA)
 ·refine⟨mm,hm.sameBut hs hne,λy mv e=>?_,λy hy=>?_⟩
  ·have e:lk (Mine.put σ.locs x m) y=some mv:=e
   rw[Fl] at e
   by_cases q:x=y
   ·subst q
    rw[if_pos rfl] at e
    cases e
    refine⟨v,hv.mono le,?_⟩
    rw[hk]
    exact⟨c,oc,hc,if_pos rfl,hd⟩
   ·rw[if_neg q] at e
    refine E1_2 (hl y mv e) λv' hv' r=>?_
    refine⟨v',hv'.mono le,?_⟩
    revert r
    cases f.env.kindOf y with
    | none=>exact id
    | some kk=>cases kk <;> intro r <;> first | exact r | (obtain⟨c1,o1,r1,r2,r3⟩:=r;exact⟨c1,o1,r1,hG _ _ r2,r3⟩)
  ·refine A2 (uX hy) λhy1 Te=>?_
   refine fO λzz=>?_
   obtain⟨hkc,c1,b1,b2,b3,RH,b4,b5⟩:=hu y hy1
   refine zz ?_
   have hc1:c1≠c:=λq=>Te (tL hnd (q▸b1) hc)
   refine⟨hkc,c1,b1,b2,?_,RH,g c1 RH hc1 b4,b5⟩
   show(if c1=c then some oc else n.X.G c1)=none
   rw[if_neg hc1];exact b3
 ·exact rel.kB.1
 ·show(if f.env.locals=c then some oc else n.X.G f.env.locals)=none
  rw[if_neg hne];exact rel.kB.2
theorem As(hf:f.Ok)(hnd:(f.env.cells.map (·.2)).Nodup){x:Str}{pos:Pos}{v:af}{m:MV}(hv:aW n.X v m):Sd S f (dM S f (assign (.Name x pos) f.env v)) (oJ Unit) (I8 x m) n:=by
 intro σ Q rel hm g d tk os Q' E' P'
 refine A2 (h_ hm) λhx hm=>?_
 have hx:=GY hx
 refine E1_3 rel.locs λmm OH hl hu=>?_
 refine fO λzz=>?_
 obtain⟨hk,c,a1,a2,a3,ob,a4,a5⟩:=hu x hx
 refine zz ?_
 refine wpAny_assign_Name (wpAny_storeName_cell (v₀:=none) hf.kind hk a1 ⟨ob,a4,a5⟩ λh' hv' hs=>?_)
 refine E1_2 hv' λoc ho hd=>?_
 refine A2 (Es hf hnd rel hv hx a1 ho hd hs) λev rel'=>?_
 exact(P' _ _ _ ev rel').1 () hm () rfl
theorem n7(t:aJ)(r:List aJ)(env:Env)(h:isStarred t=false):assignEach (t::r) env=(false,assign t env)::assignEach r env:=by
 cases t <;> first | rfl | cases h
theorem rG{env:Env}(ts:List aJ):p_ ts=true→(assignEach ts env).findIdx? (·.1)=none∧(assignEach ts env).length=ts.length:=by
 induction ts with
 | nil=>exact λz_=>⟨rfl,rfl⟩
 | cons t r Qg=>
  intro h
  have h:cond (isStarred t) false (p_ r)=true:=h
  cases hs:isStarred t with
  | true=>rw[hs] at h;exact gy h
  | false=>
   rw[hs] at h
   refine A2 (Qg h) λh1 h2=>?_
   rw[n7 t r env hs]
   refine⟨?_,by rw[bE,bE,h2]⟩
   rw[List.findIdx?_cons,h1];rfl
theorem G3(hI:dX S f ih)(ts:List aJ):∀ (vs:List af) (ms:List MV) (n:Snap),bY n.X vs ms→
  Sd S f (WP S f (assignInOrder ((assignEach ts f.env).map (·.2)) vs)) (oJ Unit) (G0 ih ts ms) n:=by
 induction ts with
 | nil=>
  intro vs ms n h
  cases ms with
  | nil=>cases h.inv;exact Sd.ret λz_ g d tk os Q E H=>aD (H _ tk rfl)
  | cons m ms=>exact .no
 | cons t ts Qg=>
  intro vs ms n h
  cases ms with
  | nil=>exact .no
  | cons m ms=>
   refine E2_3 h.inv λv vs eV hv hvs=>?_
   subst eV
   refine bU λhs=>?_
   rw[n7 t ts f.env (p8 hs)]
   refine Sd.imp (T:=λQ E s=>WP S f (assign t f.env v) (λz_ s'=>WP S f (assignInOrder ((assignEach ts f.env).map (·.2)) vs) Q E s') E s) ?_ (λQ E s h=>?_)
   ·exact Sd.bind (R':=oJ Unit) (hI.asg t v m n hv) λn' ev a b hab=>Qg vs ms n' (hvs.mono ev.le)
   ·show aA _ _ (do holding vs (assign t f.env v);assignInOrder ((assignEach ts f.env).map (·.2)) vs) Q E s
    exact ai (aM h)
theorem vY{X:Rc}:∀ {vs:List af}{ps:List PV},bQ X.P X.G vs ps→bY X vs (ps.map .pv):=by
 intro vs
 induction vs with
 | nil=>intro ps h;cases h;exact .nil
 | cons v vs ih=>intro ps h;cases h with
  | cons h r=>exact .cons (.pv h) (ih r)
theorem vW(hf:f.Ok)(hI:dX S f ih){ts:List aJ}{k:Nat}{pos:Pos}{a:au}{its:List af}{m:Nat}{ms:List MV}(g:n.X.G a=some (o8 its m))(hr:bY n.X its ms)
  (hc:(aO 1 f.lv&&p_ ts&&aX ts.length ms.length)=true):Sd S f (WP S f (assign (.Tuple ts k pos) f.env (.ref a))) (oJ Unit) (G0 ih ts ms) n:=by
 refine fO λzz=>?_
 obtain⟨hc,h3⟩:=aj.mp hc
 obtain⟨h1,h2⟩:=aj.mp hc
 have h1:=gM h1
 have h3:=bX h3
 have hh:=hf.handled h1
 obtain⟨e1,e2⟩:=rG (env:=f.env) ts h2
 refine zz ?_
 have hlen:=hr.length
 intro σ Q rel hm gg d tk os Q' E' P'
 rw[arm_assign_Tuple]
 refine ai (bG ?_)
 unfold unpack
 rw[e1,e2,h3, ←hlen]
 have ht:(⟨n.h,gg,d,tk,os⟩:ah).heap.IsTuple a its.toArray:=j9 (s:=⟨n.h,gg,d,tk,os⟩) rel.inv.sub g
 have hsz:its.length=its.toArray.size:=by simp
 rw[hsz]
 refine ai (aM (bS (wpAny_unpackItems_tuple hh ht λh' hx=>?_)))
 have kp:∀ b o,n.h.get? b=some o→h'.get? b=some o:=λb o e=>hx b o (fy (bB e)) e
 have je:bu S f σ ⟨n.X,h'⟩:=rel.pN (dB.grow kp) (rel.inv.grow kp) rel.dom rfl rfl
 refine G3 hI ts its ms ⟨n.X,h'⟩ hr σ Q je hm gg d tk os Q' E' λn' tk' σ' ev rel'=>?_
 have:=P' n' tk' σ' ((dB.grow kp).trans ev) rel'
 exact⟨this.1,λt ht e fl=>this.2 t ht e (fl.older λb o e=>⟨o,kp b o e⟩)⟩
theorem J3(hS:S.Ok)(hf:f.Ok)(hnd:(f.env.cells.map (·.2)).Nodup)(O:ic S P)(hn:f.env.scope.names=sc)(hI:dX S f ih)(t:aJ)(v:af)(m:MV)(n:Snap)(hv:aW n.X v m):
  Sd S f (WP S f (assign t f.env v)) (oJ Unit) (CE f P sc ih t m) n:=by
 cases t with
 | Name x pos=>
  refine gh λk hk=>?_
  cases k with
  | «local»=>exact(yi hf hn hk hv).lift
  | cell=>exact(As hf hnd hv).lift
  | _=>exact .no
 | Tuple ts k pos=>
  refine By (T:=λv=>WP S f (assign (.Tuple ts k pos) f.env v)) hv (λvs a its m g r=>bU λhc=>vW hf hI g (vY r) (by rw[aC];exact hc)) ?_
  refine Iv hv (λvs hm=>bU λhc=>?_) .no
  refine E3_3 hm.inv λa its m rU g r=>?_
  subst rU
  exact vW hf hI g r hc
 | Attribute o x pos=>
  refine Sd.imp (T:=λQ E s=>WP S f (eval o f.env) (λov s'=>dM S f (setAttr ov x v) Q E s') E s) ?_ (λQ E s h=>?_)
  ·exact Sd.bind (R':=RV) (hI.ev o n) λn' ev ov om P8=>Iw hS O P8 (hv.mono ev.le)
  ·rw[assign_Attribute]
   exact ai (aM (aN h λov s' h'=>ai (bG (ai (aM (aN (bS h') λu s'' h''=>nh h''))))))
 | Subscript o i pos=>
  refine bU λhc=>?_
  refine Sd.imp (T:=λQ E s=>WP S f (eval o f.env) (λov s'=>WP S f (eval i f.env) (λiv s2=>dM S f (setItem ov iv v) Q E s2) E s') E s) ?_ (λQ E s h=>?_)
  ·refine Sd.bind (R':=RV) (hI.ev o n) λn' ev ov om P8=>?_
   exact Sd.bind (R':=RV) (hI.ev i n') λn2 iw iv im S0=>BA (P8.mono iw.le) S0 ((hv.mono ev.le).mono iw.le)
  ·show aA _ _ (assign (.Subscript o i pos) f.env v) Q E s
   rw[arm_assign_Subscript]
   exact ai (aM (aN h λov s' h'=>ai (aM (aN h' λiv s2 h2=>ai (bG (ai (aM (aN (bS h2) λu s3 h3=>nh h3))))))))
 | _=>exact .no
end
section
open Builtin
section
variable{S:Sx}{f:Fx}{sc:List (Str×aE)}{P:Pg}{ih:Ih}{n:Snap}
noncomputable def Mt.val:Mt→af
 | .fn g _=>.ref g
 | .append b=>cond b (.builtin "bytearray.append") (.builtin "list.append")
 | .pop=>.builtin "list.pop"
 | .get=>.builtin "dict.get"
 | .join=>.builtin "bytes.join"
noncomputable def Mt.Good(S:Sx):Mt→Prop
 | .fn g _=>keepIn S.K (.ref g)=true
 | _=>True
theorem qa:PlainAttrs "bytes":=
 ⟨⟨"bytes.__getattribute__",by rw[typeLookup_type,builtinLookup_eq_fast];kernel_rfl,by decide+kernel⟩,by rw[typeLookup_type,builtinLookup_eq_fast];kernel_rfl⟩
theorem mj:Slot "bytes" "join" "bytes.join":=
 .of (owner:="bytes") (n:="join") (by rw[typeLookup_type,builtinLookup_eq_fast];kernel_rfl) (by decide+kernel) (by decide+kernel) (by decide+kernel)
  (by first | exact .inl (by decide+kernel) | exact .inr (by decide+kernel)) (by rw[isSubtype_type];kernel_rfl)
theorem rS:typeOf (.builtin "bytes.join")=pure (.type "method_descriptor"):=by show builtinType _=_;rw[builtinType_eq_fast];kernel_rfl
theorem qA:entryFor table "bytes.join"=some fU.«bytes.join»:=entryFor_of_tree (by kernel_rfl)
theorem rF(a b:af):argsOk "bytes.join" ⟨[a,b],[]⟩:=by unfold argsOk;kernel_rfl
section
variable{prog:cP}{w:cE}{A:bC}{E:af→ah→Prop}{s:ah}{a:au}{pl:Sem Bool}{Q:af×List af→ah→Prop}
theorem r6{name:Str}{id:String}{o:Obj}(ho:s.heap.get? a=some o)(hc:o.cls= .type "list")(hd:o.dict=none)(slot:Slot "list" name id)(hty:typeOf (.builtin id)=pure (.type "method_descriptor"))
  (h:Q (.builtin id,[.ref a]) s):wpAny (model prog w) A (getMethod (.ref a) name pl) Q E s:=
 getMethod_builtin ⟨_,ho,hc⟩ PySem.F.plainAttrs_list slot hty (λa e=>by cases e;exact⟨_,ho,hd⟩) h
end
set_option tactic.hygienic true in
theorem EL(hS:S.Ok)(O:ic S P){p:Nat}{C:au}{fs:List (Str×MV)}{name:Str}{pl:Sem Bool}(oi:ye n.X n.h p C fs):
  Sd S f (dM S f (getMethod (.ref (n.X.θ p)) name pl)) (λz_ r mt=>r=(mt.val,[.ref (n.X.θ p)])∧mt.Good S) (Ja P C fs name) n:=by
 refine fO λzz=>?_
 obtain⟨g1,o1,g2,o2,fr⟩:=oi
 refine zz ?_
 rename_i dd es k
 refine gh λc hc=>gh λg hg=>ny (λv hv=>.no) λhv=>gh λns hns=>Sd.ret λ⟨σ,rel⟩ gg d tk os Q' E' H=>?_
 have OC:=O.cls C c hc
 refine A4 (OC.Qo name g hg) λm1 m2 m3 m4=>?_
 have e0:=tu fr hv
 have I:W.InstAt n.h (n.X.θ p) (instObj C dd) C (some (gR es k)):=⟨g1,rfl,rfl,g2⟩
 exact method_fn (s:=⟨n.h,gg,d,tk,os⟩) (hS.X.keeps rel.dU) I (plainGet_of OC.plain).1 (plainGet_of OC.plain).2 m1 m2 (by show(lookIn name (gR es k)).map _=_;rw[lookIn_dict,e0];rfl) (H (.ref g,[.ref (n.X.θ p)]) tk ⟨rfl,m4⟩)
theorem EM(hS:S.Ok)(O:ic S P){o:af}{ov:MV}{name:Str}{pl:Sem Bool}(ho:aW n.X o ov):
  Sd S f (dM S f (getMethod o name pl)) (λz_ r mt=>r=(mt.val,[o])∧mt.Good S) (Jb P ov name) n:=by
 cases ov with
 | lX vs=>exact .no
 | pv p=>cases p with
  | bytes l b=>
   obtain⟨t,rfl⟩:=BJ ho
   refine bU λhb=>?_
   cases bZ.mp hb
   exact Sd.ret λz_ gg d tk os Q E H=>getMethod_builtin (typeIs_bytes _ _ _) qa mj rS (λa e=>by cases e) (H (.builtin "bytes.join",_) tk ⟨rfl,trivial⟩)
  | _=>exact .no
 | loc p=>
  obtain⟨rfl,hd⟩:=ur ho
  refine jh λob=>xO (λC fs oi=>Sd.of' (EL hS O oi)) (nF (λrev ⟨g,own,r⟩=>nH λhb=>?_) (CB (λb ⟨g,own⟩=>nH λhb=>?_) (qe (λbz ⟨g,own,nd,st⟩=>Sd.of' (kX (λhb=>?_) λz_=>bU λhb=>?_)) (zR (λes ⟨g,own,r⟩=>nH λhb=>?_) iM))))
  ·cases bZ.mp hb
   exact Sd.of' (Sd.ret λz_ gg d tk os Q' E' H=>r6 (s:=⟨n.h,gg,d,tk,os⟩) g rfl rfl rD rE (H (.builtin "list.append",_) tk ⟨rfl,trivial⟩))
  ·cases bZ.mp hb
   exact Sd.of' (Sd.ret λz_ gg d tk os Q' E' H=>getMethod_builtin (s:=⟨n.h,gg,d,tk,os⟩) ⟨_,g,rfl⟩ tW kF uq (λa e=>by cases e;exact⟨_,g,rfl⟩) (H (.builtin "bytearray.append",_) tk ⟨rfl,trivial⟩))
  ·cases bZ.mp hb
   exact Sd.ret λz_ gg d tk os Q' E' H=>r6 (s:=⟨n.h,gg,d,tk,os⟩) g rfl rfl rD rE (H (.builtin "list.append",_) tk ⟨rfl,trivial⟩)
  ·cases bZ.mp hb
   exact Sd.ret λz_ gg d tk os Q' E' H=>r6 (s:=⟨n.h,gg,d,tk,os⟩) g rfl rfl PySem.F.slot_list_pop PySem.F.type_list_pop (H (.builtin "list.pop",_) tk ⟨rfl,trivial⟩)
  ·cases bZ.mp hb
   have hm':=Heap.DictOf.mapOf g
   refine Sd.of' (Sd.ret λz_ gg d tk os Q' E' H=>?_)
   have nd:∃ o,n.h.get? (n.X.θ p)=some o∧o.dict=none:=by obtain⟨o,_,_,ho,hx,_⟩:=g;exact⟨o,ho,hx.2.1⟩
   exact getMethod_builtin (s:=⟨n.h,gg,d,tk,os⟩) hm'.typeIs PySem.F.plainAttrs_dict PySem.F.slot_dict_get PySem.F.type_dict_get (λa e=>by cases e;exact nd) (H (.builtin "dict.get",_) tk ⟨rfl,trivial⟩)
end
end
section
open Builtin
section
variable{S:Sx}{f:Fx}{sc:List (Str×aE)}{P:Pg}{ih:Ih}{n:Snap}
theorem mH{rev:List PV}{its:List af}{Pm:aV}{G:au→Option Obj}(h:bQ Pm G its.reverse rev):its.length=rev.length:=by
 have:=h.length;rw[av] at this;exact this
theorem nq{its:List af}(v:af):its.toArray.push v=(its++[v]).toArray:=by simp
set_option tactic.hygienic true in
theorem append_at{σ:St}(rel:bu S f σ n){p:Nat}{rev:List PV}(ho:cN σ.foot p=some (.list rev)){v:af}{m:PV}(hv:aW n.X v (.pv m))(hz:rev.length≤aB){Q:Res MV→St→Prop}
  (hq:Q (.ok (.pv .none)) {σ with foot:=jV σ.foot p (.list (m::rev))}):At S f (dM S f (call (.builtin "list.append") [.ref (n.X.θ p),v])) RV Q n:=by
 refine A2 (fG rel ho) λhd or=>?_
 unfold aB at hz
 cases or with
 | list g own r=>
 rename_i its j
 have hl:=mH r
 intro gg d tk os Q' E' P'
 refine wpAny_list_append_plain (s:=⟨n.h,gg,d,tk,os⟩) ⟨j,g⟩ (λh' h1 h2=>?_) (by rw[sizeLine_eq,aG];exact aa (aQ hl) (aa hz (by decide)))
 refine E1_1 h1 λj' h1=>?_
 rw[nq] at h1
 obtain⟨ev,rel'⟩:=nu rel ho (o':=.list (m::rev)) (h':=h') (λb ob e hb=>(h2.2 b (λq=>hb (q▸own))).trans e)
  (λb ob e=>by
   by_cases qb:b=n.X.θ p
   ·subst qb;exact⟨_,h1⟩
   ·exact⟨ob,(h2.2 b qb).trans e⟩)
  (.list h1 own (by rw[iu];exact .cons (nU hv) r))
 exact(P' _ tk _ ev.wide rel').1 _ hq _ (.pv .none)
theorem ud{X:Rc}{h h':b9}{k:Nat}:∀ {as:List au}{bz:List (List PV)},rV X h k as bz→(∀ a ∈ as,∀ o,h.get? a=some o→h'.get? a=some o)→rV X h' k as bz
:=by
 intro as bz z
 induction z with
 | nil=>exact λ_=>.nil
 | cons g o r t ih=>exact λq=>.cons (q _ (.head _) _ g) o r (ih λa ha=>q a (.tail _ ha))
theorem CI{X X':Rc}{h:b9}{k:Nat}(hP:X'.P=X.P)(hG:∀ a o,X.G a=some o→X'.G a=some o):∀ {as:List au}{bz:List (List PV)},rV X h k as bz→(∀ a ∈ as,X.own a=some k→X'.own a=some k)→rV X' h k as bz
:=by
 intro as bz z
 induction z with
 | nil=>exact λ_=>.nil
 | cons g o r t ih=>exact λq=>.cons g (q _ (.head _) o) (by rw[hP];exact r.mono hG) (ih λa ha=>q a (.tail _ ha))
set_option tactic.hygienic true in
theorem Lr{σ:St}(rel:bu S f σ n){p:Nat}{rev:List PV}{bz:List (List PV)}(ho:cN σ.foot p=some (.stack (rev::bz))){a:au}{as:List au}{j:Nat}(g:n.h.get? (n.X.θ p)=some (fh ((a::as).reverse.map .ref) j))
  (own:n.X.own (n.X.θ p)=some p)(nd:(n.X.θ p::a::as).Nodup)(st:rV n.X n.h p (a::as) (rev::bz)){v:af}{m:PV}(hv:aW n.X v (.pv m))(hz:rev.length≤aB){Q:Res MV→St→Prop}
  (hq:Q (.ok (.pv .none)) {σ with foot:=jV σ.foot p (.stack ((m::rev)::bz))}):At S f (dM S f (call (.builtin "list.append") [.ref a,v])) RV Q n:=by
 unfold aB at hz
 cases st with
 | cons g2 o2 r t=>
 rename_i its k
 have hl:=mH r
 intro gg d tk os Q' E' P'
 refine wpAny_list_append_plain (s:=⟨n.h,gg,d,tk,os⟩) ⟨k,g2⟩ (λh' h1 h2=>?_) (by rw[sizeLine_eq,aG];exact aa (aQ hl) (aa hz (by decide)))
 obtain⟨k',h1⟩:=h1
 rw[nq] at h1
 have To:n.X.θ p≠a:=λq=>by rw[bK] at nd;exact nd.1 (q▸ .head _)
 have Tp:∀ b ∈ as,b≠a:=λb hb q=>by rw[bK,bK] at nd;exact nd.2.1 (q▸hb)
 obtain⟨ev,rel'⟩:=nu rel ho (o':=.stack ((m::rev)::bz)) (h':=h') (λb ob e hb=>(h2.2 b (λq=>hb (q▸o2))).trans e)
  (λb ob e=>by
   by_cases qb:b=a
   ·subst qb;exact⟨_,h1⟩
   ·exact⟨ob,(h2.2 b qb).trans e⟩)
  (.stack ((h2.2 _ To).trans g) own nd (.cons h1 o2 (by rw[iu];exact .cons (nU hv) r) (ud t λb hb o e=>(h2.2 b (Tp b hb)).trans e)))
 exact(P' _ tk _ ev.wide rel').1 _ hq _ (.pv .none)
theorem IB{X:Rc}{h:b9}{k:Nat}{a:au}{as:List au}{rev:List PV}{bz:List (List PV)}(st:rV X h k (a::as) (rev::bz)):∃ its j,h.get? a=some (fh its j)∧bQ X.P X.G its.reverse rev:=by
 cases st with | cons g o r t=>exact⟨_,_,g,r⟩
theorem uU{prog:cP}{w:cE}{A:bC}{E:af→ah→Prop}{s:ah}{D:au}{its:List af}{y:af}{k:Nat}{Q:af→ah→Prop}(g:s.heap.get? D=some (fh (its++[y]) k))(hz:its.length+1≤sizeLine)
  (h:∀ h',h'.get? D=some (fh its (k+1))→fM D s.heap h'→Q y {s with heap:=h'}):wpAny (model prog w) A (call (.builtin "list.pop") [.ref D]) Q E s:=by
 have hk:(its++[y]).toArray.size-1=its.length:=by rw[aG,aS];rfl
 have hy:(its++[y]).toArray[(its++[y]).toArray.size-1]? =some y:=by rw[hk];simp
 have q:=PySem.IsL.update (show PySem.IsL s.heap D (its++[y]).toArray k from g) (λxs=>xs.eraseIdxIfInBounds ((its++[y]).toArray.size-1))
 refine call_meets PySem.F.slot_list_pop ⟨_,g,rfl⟩ PySem.F.entry_list_pop (PySem.F.args_list_pop_1 _) (PySem.MeetsSeq.list_pop_last D _ k y hy (by rw[aG,aS];exact hz)) ⟨g,h _ ?_ (Heap.SameBut.update ..)⟩
 have e:(its++[y]).toArray.eraseIdxIfInBounds ((its++[y]).toArray.size-1)=its.toArray:=by rw[hk,kl_erase,dw]
 rw[e,if_neg (by rw[aG,aG,aS];simp)] at q
 exact q
set_option tactic.hygienic true in
theorem pop_at{σ:St}(rel:bu S f σ n){p:Nat}{rev:List PV}{bz:List (List PV)}(ho:cN σ.foot p=some (.stack (rev::bz)))(hz:bz.length≤aB){Q:Res MV→St→Prop}
  (hq:Q (.ok (.pv (.list rev.reverse))) {σ with foot:=jV σ.foot p (.stack bz)}):At S f (dM S f (call (.builtin "list.pop") [.ref (n.X.θ p)])) RV Q n:=by
 refine A2 (fG rel ho) λhd or=>?_
 unfold aB at hz
 cases or with
 | stack g own nd st=>
 rename_i as j
 cases st with
 | cons g2 o2 r t=>
 rename_i a its k as
 have hlen:=xS t
 intro gg d tk os Q' E' P'
 have Uk:=nd
 rw[bK,bK] at nd
 have g':n.h.get? (n.X.θ p)=some (fh (as.reverse.map .ref++[.ref a]) j):=by
  rw[g,cO,b_];rfl
 refine uU (s:=⟨n.h,gg,d,tk,os⟩) g' (by rw[sizeLine_eq,aC,av];exact aa (aH (aa (aQ hlen) hz)) (by decide)) λh' h1 h2=>?_
 have hap:a≠n.X.θ p:=λq=>nd.1 (q▸ .head _)
 have ga:n.X.G a=none:=(rel.inv.off a p o2).1
 have PO:h'.get? a=some (fh its k):=(h2.2 a hap).trans g2
 obtain⟨ev,inv⟩:=lQ (F':=jV σ.foot p (.stack bz)) (h':=h') (own':=λb=>if b=a then none else n.X.own b) (G':=λb=>if b=a then some (fh its k) else n.X.G b) rel.inv hd
  (λb ob e hb=>(h2.2 b (λq=>hb (q▸own))).trans e)
  (λb ob e=>by
   by_cases qb:b=n.X.θ p
   ·subst qb;exact⟨_,h1⟩
   ·exact⟨ob,(h2.2 b qb).trans e⟩)
  (λb i hi=>by
   by_cases q:b=a
   ·subst q
    refine⟨λh=>?_,λh=>?_⟩
    ·rw[if_pos rfl] at h;exact bR h
    ·rw[o2] at h;exact absurd (aK h).symm hi
   ·simp only[if_neg q])
  (λb e=>by
   by_cases q:b=a
   ·simp only[if_pos q] at e;exact bR e
   ·simp only[if_neg q] at e ⊢
    refine⟨.inl e,(rel.inv.off b p e).1,?_⟩
    by_cases qb:b=n.X.θ p
    ·subst qb;exact⟨_,h1⟩
    ·refine E1_1 ((rel.inv.off b p e).2) λo ho=>?_
     exact⟨o,(h2.2 b qb).trans ho⟩)
  (λb o e=>by
   by_cases q:b=a
   ·subst q;rw[ga] at e;exact bR e
   ·simp only[if_neg q];exact e)
  (λb o e=>by
   by_cases q:b=a
   ·subst q;simp only[if_pos] at e;cases e;exact .inr ⟨.inl o2,PO⟩
   ·simp only[if_neg q] at e;exact .inl e)
  (λi o e=>(iW e).imp id λ⟨h3,h4,_⟩=>⟨h3,by
   subst h4
   refine .stack h1 ?_ ?_ (CI (X:=n.X) (X':={n.X with own:=λb=>if b=a then none else n.X.own b,G:=λb=>if b=a then some (fh its k) else n.X.G b}) rfl ?_ (ud t ?_) ?_)
   ·show(if n.X.θ p=a then none else n.X.own (n.X.θ p))=some p
    rw[if_neg (eW hap)];exact own
   ·rw[bK];exact⟨λq=>nd.1 (.tail _ q),nd.2.2⟩
   ·intro b o e
    show(if b=a then some (fh its k) else n.X.G b)=some o
    rw[if_neg];exact e
    rintro rfl;rw[ga] at e;exact bR e
   ·intro b hb o e
    exact(h2.2 b (λq=>nd.1 (q▸ .tail _ hb))).trans e
   ·intro b hb e
    show(if b=a then none else n.X.own b)=some p
    rw[if_neg (λq:b=a=>nd.2.1 (q▸hb))];exact e⟩) f.cZ
 have rel':=rel.pN (σ':={σ with foot:=jV σ.foot p (.stack bz)}) ev inv rel.dom rfl rfl
 refine(P' _ tk _ ev.wide rel').1 _ hq _ (.pv (.list (if_pos rfl) ?_))
 have:=(r.mono (G':=λb=>if b=a then some (fh its k) else n.X.G b) (λb o e=>by
  show(if b=a then some (fh its k) else n.X.G b)=some o
  rw[if_neg];exact e
  rintro rfl;rw[ga] at e;exact bR e)).reverse
 rw[dZ] at this
 exact this
end
end
section
open Builtin
section
variable{S:Sx}{f:Fx}{sc:List (Str×aE)}{P:Pg}{ih:Ih}{n:Snap}
set_option tactic.hygienic true in
theorem mS{X:Rc}{h:b9}{k:Nat}(r:gQ S X h k (.list [])):gQ S X h k (.stack []):=by
 cases r with
 | list g o r=>
  rename_i its j
  have hl:=mH r
  have:its=[]:=kO.mp (by rw[hl];rfl)
  subst this
  exact .stack (as:=[]) g o (by simp) .nil
set_option tactic.hygienic true in
theorem Ct{σ:St}(rel:bu S f σ n){p k:Nat}{bz:List (List PV)}(hr:gQ S n.X n.h p (.stack bz)){o0:eg}(ho:cN σ.foot p=some o0)(hk:cN σ.foot k=some (.list []))(hpk:p≠k)(hz:bz.length≤aB){Q:Res MV→St→Prop}
  (hq:Q (.ok (.pv .none)) {σ with foot:=jV (iF σ.foot k) p (.stack ([]::bz))}):At S f (dM S f (call (.builtin "list.append") [.ref (n.X.θ p),.ref (n.X.θ k)])) RV Q n:=by
 obtain⟨hd,_⟩:=fG rel ho
 obtain⟨SV,Tz⟩:=fG rel hk
 unfold aB at hz
 cases hr with
 | stack g own nd st=>
 cases Tz with
 | list gk ok rk=>
 rename_i as j Tf jk
 have hlen:=xS st
 have hlk:=mH rk
 have hik:Tf=[]:=kO.mp (by rw[hlk];rfl)
 subst hik
 have hne:n.X.θ p≠n.X.θ k:=λq=>by rw[q,ok] at own;exact hpk (aK own).symm
 have hna:n.X.θ k ∉ as:=λq=>by have:=st.owned _ q;rw[ok] at this;exact hpk (aK this).symm
 intro gg d tk os Q' E' P'
 refine wpAny_list_append_plain (s:=⟨n.h,gg,d,tk,os⟩) ⟨j,g⟩ (λh' h1 h2=>?_) (by rw[sizeLine_eq,aG,aC,av];exact aa (aQ hlen) (aa hz (by decide)))
 obtain⟨j',h1⟩:=h1
 have e1:(as.reverse.map fY).toArray.push (.ref (n.X.θ k))=((n.X.θ k::as).reverse.map fY).toArray:=by rw[nq,cO,b_];rfl
 rw[e1] at h1
 have gF:∀ i ob,cN (jV (iF σ.foot k) p (.stack ([]::bz))) i=some ob→(i≠p∧i≠k∧cN σ.foot i=some ob)∨(i=p∧ob= .stack ([]::bz)):=λi ob e=>by
  rcases iW e with ⟨h3,h4⟩ | ⟨h3,h4,_⟩
  ·rw[mP] at h4
   split at h4
   ·exact bR h4
   ·rename_i h5;exact .inl ⟨h3,eW h5,h4⟩
  ·exact .inr ⟨h3,h4⟩
 obtain⟨ev,inv⟩:=vV (ks:=[p,k]) (F':=jV (iF σ.foot k) p (.stack ([]::bz))) (h':=h') (own':=λb=>if b=n.X.θ k then some p else n.X.own b) (G':=n.X.G) rel.inv
  (λi hi=>by
   rcases ay.mp hi with rfl | hi
   ·exact hd
   ·rw[az.mp hi];exact SV)
  (λb ob e hb=>(h2.2 b (λq=>hb p (.head _) (q▸own))).trans e)
  (λb ob e=>by
   by_cases qb:b=n.X.θ p
   ·subst qb;exact⟨_,h1⟩
   ·exact⟨ob,(h2.2 b qb).trans e⟩)
  (λb i hi=>by
   have S1:i≠p:=λq=>hi (q▸ .head _)
   have hik:i≠k:=λq=>hi (q▸ .tail _ (.head _))
   by_cases q:b=n.X.θ k
   ·subst q
    refine⟨λh=>?_,λh=>?_⟩
    ·rw[if_pos rfl] at h;exact absurd (aK h).symm S1
    ·rw[ok] at h;exact absurd (aK h).symm hik
   ·simp only[if_neg q])
  (λb i hi e=>by
   by_cases q:b=n.X.θ k
   ·subst q
    exact⟨.inl ⟨k,.tail _ (.head _),ok⟩,(rel.inv.off _ k ok).1,_,(h2.2 _ (eW hne)).trans gk⟩
   ·simp only[if_neg q] at e
    refine⟨.inl ⟨i,hi,e⟩,(rel.inv.off b i e).1,?_⟩
    by_cases qb:b=n.X.θ p
    ·subst qb;exact⟨_,h1⟩
    ·obtain⟨o,ho⟩:=(rel.inv.off b i e).2
     exact⟨o,(h2.2 b qb).trans ho⟩)
  (λz_ z_ e=>e) (λz_ z_ e=>.inl e)
  (λi ob e=>(gF i ob e).imp (λ⟨h3,h4,h5⟩=>⟨λq=>by
    rcases ay.mp q with q | q
    ·exact h3 q
    ·exact h4 (az.mp q),h5⟩) λ⟨h3,h4⟩=>⟨by rw[h3];exact .head _,by
   subst h3 h4
   refine .stack h1 ?_ ?_ (.cons (its:=[]) ((h2.2 _ (eW hne)).trans gk) (if_pos rfl) .nil (CI (X:=n.X) (X':={n.X with own:=λb=>if b=n.X.θ k then some i else n.X.own b}) rfl (λz_ z_ e=>e) (ud st ?_) ?_))
   ·show(if n.X.θ i=n.X.θ k then some i else n.X.own (n.X.θ i))=some i
    rw[if_neg hne];exact own
   ·rw[bK] at nd
    rw[bK,bK]
    refine⟨λq=>?_,hna,nd.2⟩
    rcases ay.mp q with q | q
    ·exact hne q
    ·exact nd.1 q
   ·intro b hb o e
    exact(h2.2 b (λq=>by rw[bK] at nd;exact nd.1 (q▸hb))).trans e
   ·intro b hb e
    show(if b=n.X.θ k then some i else n.X.own b)=some i
    rw[if_neg (λq:b=n.X.θ k=>hna (q▸hb))];exact e⟩) f.cZ
 have rel':=rel.pN (σ':={σ with foot:=jV (iF σ.foot k) p (.stack ([]::bz))}) ev inv rel.dom rfl rfl
 exact(P' _ tk _ ev.wide rel').1 _ hq _ (.pv .none)
theorem Mf{σ:St}(rel:bu S f σ n){p:Nat}{b:List UInt8}(ho:cN σ.foot p=some (.ba b)){v:af}{l:Bool}{k:Int}(hv:aW n.X v (.pv (.int l k)))(h0:0≤k)(h1:k<256)(hz:b.length≤aB){Q:Res MV→St→Prop}
  (hq:Q (.ok (.pv .none)) {σ with foot:=jV σ.foot p (.ba (b++[fX k.toNat]))}):At S f (WP S f (call (.builtin "bytearray.append") [.ref (n.X.θ p),v])) RV Q n:=by
 refine A2 (fG rel ho) λhd or=>?_
 refine E1_1 (vInt hv) λt nV=>?_
 subst nV
 unfold aB at hz
 cases or with
 | ba g own=>
 intro gg d tk os Q' E' P'
 refine zg (s:=⟨n.h,gg,d,tk,os⟩) g h0 h1 (by rw[sizeLine_eq];exact aa (aH hz) (by decide)) λh' e1 e2=>?_
 obtain⟨ev,rel'⟩:=nu rel ho (o':=.ba (b++[fX k.toNat])) (h':=h') (λc ob e hb=>e2 c ob (λq=>hb (q▸own)) e)
  (λc ob e=>by
   by_cases qb:c=n.X.θ p
   ·subst qb;exact⟨_,e1⟩
   ·exact⟨ob,e2 c ob qb e⟩) (.ba e1 own)
 exact(P' _ tk _ ev.wide rel').1 _ hq _ (.pv .none)
theorem Dw{Pm:aV}{G:au→Option Obj}{x:List UInt8}:∀ {es:List (List UInt8×af)}{fs:List (List UInt8×PV)},rC Pm G es fs→cy Pm G ((valueAt es x).getD .none) (qX fs x):=by
 intro es fs h
 induction h with
 | nil=>exact .none
 | @cons y v p es fs h r ih=>
  unfold qX valueAt
  rw[List.find?_cons]
  cases hb:(y == x) with
  | true=>simp only[decide_eq_true (eq_of_beq hb)];exact h
  | false=>
   have:decide (y=x)=false:=decide_eq_false λe=>by rw[e] at hb;simp at hb
   simp only[this]
   exact ih
theorem G7(hS:S.Ok)(O:ic S P){σ:St}(rel:bu S f σ n){p:Nat}{es:List (List UInt8×PV)}(ho:cN σ.foot p=some (.iT es)){v:af}{l:Bool}{k:List UInt8}(hv:aW n.X v (.pv (.bytes l k))){Q:Res MV→St→Prop}
  (hq:Q (.ok (.pv (qX es k))) σ):At S f (dM S f (call (.builtin "dict.get") [.ref (n.X.θ p),v])) RV Q n:=by
 refine A2 (fG rel ho) λhd or=>?_
 refine E1_1 (BJ hv) λt nV=>?_
 subst nV
 cases or with
 | iT g own r=>
 have hm:=Heap.DictOf.mapOf g
 refine At.ret rel hq λgg d tk os Q' E' H=>?_
 have hmod:(n.X.θ p == sysModules)=false:=beq_eq_false_iff_ne.mpr λq=>by
  refine E1_1 O.mods λo e=>?_
  have:=rel.inv.base _ _ e
  rw[←q,(rel.inv.off _ _ own).1] at this;exact bR this
 refine call_meetsIn (s:=⟨n.h,gg,d,tk,os⟩) PySem.F.slot_dict_get hm.typeIs PySem.F.entry_dict_get (PySem.F.args_dict_get_2 _ _) (meets_dict_get (bytesKind S.prog S.w) (k:=k) (key:=.bytes k.toArray t) (d:=n.X.θ p) ?_ hmod) ⟨_,hm,H _ _ (.pv (Dw r))⟩
 show isBytes k (.bytes k.toArray t)=true
 simp[isBytes]
end
end
section
open Builtin
section
variable{S:Sx}{f:Fx}{sc:List (Str×aE)}{P:Pg}{ih:Ih}{n:Snap}
theorem we{Pm:aV}{G:au→Option Obj}(vs:List PV):∀ {bs:List (List UInt8)}{its:List af},fC vs=some bs→bQ Pm G its vs→gq its bs:=by
 induction vs with
 | nil=>intro bs its e h;cases e;cases h.inv;exact .nil
 | cons p r ihr=>
  intro bs its e h
  obtain⟨v,vs,rfl,h,t⟩:=h.inv
  cases p with
  | bytes l b=>
   have e:aF (fC r) (λq=>some (b::q)) none=some bs:=e
   cases q:fC r with
   | none=>rw[q] at e;exact bR e
   | some q'=>
    rw[q] at e;cases e
    obtain⟨t',rfl⟩:=h.inv
    exact .cons (ihr q t)
  | _=>exact bR e
theorem Gd{p k:Nat}:Sd S f (dM S f (call (.builtin "list.append") [.ref (n.X.θ p),.ref (n.X.θ k)])) RV (JI p k) n:=by
 refine jh λob σ Q rel hob hm=>?_
 unfold M.obj at hm
 cases hk:cN σ.foot k with
 | none=>rw[hk] at hm;exact hm.elim
 | some Ah=>
  rw[hk] at hm
  cases Ah with
  | list r'=>cases r' with
   | cons _ _=>exact hm.elim
   | nil=>cases ob with
    | list r=>cases r with
     | cons _ _=>exact hm.elim
     | nil=>exact Ct rel (mS (fG rel hob).2) hob hk (iX (yk hm).1) (d7 _) (yk hm).2
    | stack bz=>
     obtain⟨e1,e2⟩:=aj.mp (h_ hm).1
     exact Ct rel (fG rel hob).2 hob hk (iX (p8 e1)) (gM e2) (h_ hm).2
    | _=>exact hm.elim
  | _=>exact hm.elim
theorem GZ{p:Nat}{v:af}{m:MV}(hv:aW n.X v m):Sd S f (dM S f (call (.builtin "list.append") [.ref (n.X.θ p),v])) RV (Mb p m) n:=
 vN hv (λq hq=>jh λob=>nF (λrev z_ σ Q rel hob hm=>append_at rel hob hq (gM (h_ hm).1) (h_ hm).2) iM)
  (i_ (T:=λv=>dM S f (call (.builtin "list.append") [.ref (n.X.θ p),v])) hv (λk hd=>Gd) .no)
theorem J4{p:Nat}{v:af}{m:MV}(hv:aW n.X v m):Sd S f (WP S f (call (.builtin "bytearray.append") [.ref (n.X.θ p),v])) RV (Rf p m) n:=by
 refine eu (T:=λv=>WP S f (call (.builtin "bytearray.append") [.ref (n.X.θ p),v])) hv (λl k t=>jh λob=>CB (λb z_ σ Q rel hob hm=>?_) iM) .no
 refine fO λzz=>?_
 obtain⟨hc,hm⟩:=h_ hm
 obtain⟨hc,c3⟩:=aj.mp hc
 obtain⟨c1,c2⟩:=aj.mp hc
 refine zz ?_
 exact Mf rel hob (l:=l) (.pv .int) (of_decide_eq_true c1) (of_decide_eq_true c2) (gM c3) hm
theorem Fc{b:af}{t:Tok}{v:af}{m:MV}(hb:b= .bytes (cK []) t)(hv:aW n.X v m):Sd S f (dM S f (call (.builtin "bytes.join") [b,v])) RV (joinM m) n:=by
 subst hb
 refine gZ (T:=λv=>dM S f (call (.builtin "bytes.join") [_,v])) hv (λvs a its k g r=>Sd.ex λbs PY=>Sd.need λhz=>Sd.ret λ⟨σ,rel⟩ gg d tk os Q E H=>?_) .no
 refine A2 (aj.mp hz) λz1 z2=>?_
 exact wpAny_call_entry mj (typeIs_bytes _ _ _) qA (C3 (s:=⟨n.h,gg,d,tk,os⟩) (rel.inv.sub _ _ g) (we vs PY r) (Lo z1) λt k=>⟨_,rfl,H _ k (.pv .bytes)⟩) (rF _ _)
theorem IU(hS:S.Ok)(hf:f.Ok)(O:ic S P){mt:Mt}{o:af}{ov:MV}{vs:List af}{args:List MV}{kvs:List (Str×af)}{kw:List (Str×MV)}(ho:aW n.X o ov)(hvs:bY n.X vs args)(hkv:dQ n.X kvs kw):
  Sd S f (WP S f (call mt.val (o::vs) kvs)) RV (Oq S f mt ov args kw) n:=by
 cases mt with
 | fn g ns=>exact λσ Q rel hm=>(sW (room_in hf) rel (.pv .sv) (.cons ho hvs) hkv hm).imp λQ E s=>jo
 | append ba=>
  refine i_ (T:=λo=>WP S f (call (Mt.append ba).val (o::vs) kvs)) ho (λp hd=>iz (T:=λvs kvs=>WP S f (call (Mt.append ba).val (_::vs) kvs)) hvs hkv λv m hv=>?_) .no
  cases ba with
  | true=>exact J4 hv
  | false=>exact(GZ hv).lift
 | pop=>
  refine i_ (T:=λo=>WP S f (call Mt.pop.val (o::vs) kvs)) ho (λp hd=>zK (T:=λvs kvs=>WP S f (call Mt.pop.val (_::vs) kvs)) hvs hkv (Sd.lift (jh λob=>qe (λrs z_=>CC λrev bz e=>?_) iM)) .no) .no
  subst e
  exact λσ Q rel hob hm=>pop_at rel hob (gM (h_ hm).1) (h_ hm).2
 | get=>
  refine i_ (T:=λo=>WP S f (call Mt.get.val (o::vs) kvs)) ho (λp hd=>iz (T:=λvs kvs=>WP S f (call Mt.get.val (_::vs) kvs)) hvs hkv λv m hv=>Sd.lift ?_) .no
  refine fE (T:=λv=>dM S f (call (.builtin "dict.get") [_,v])) hv (λl k t=>jh λob=>zR (λes z_ σ Q rel hob hm=>?_) iM) .no
  refine E1_2 hm λr hr hm=>?_
  subst hr
  exact G7 hS O rel hob (l:=l) (.pv .bytes) hm
 | join=>
  refine fE (T:=λo=>WP S f (call Mt.join.val (o::vs) kvs)) ho (λl b t=>Bv (λe=>iz (T:=λvs kvs=>WP S f (call Mt.join.val (_::vs) kvs)) hvs hkv λv m hv=>Sd.lift ?_) .no) .no
  subst e
  exact Fc rfl hv
end
end
section
open Builtin
section
variable{S:Sx}{f:Fx}{sc:List (Str×aE)}{P:Pg}{ih:Ih}{n:Snap}
theorem HB(x y:Int):Max.max x y=if y>x then y else x:=by rw[Int.max_def];split <;> split <;> omega
theorem HT(O:ic S P){σ:St}(rel:bu S f σ n){p k:Nat}(own:n.X.own (n.X.θ p)=some k):(n.X.θ p == sysModules)=false:=beq_eq_false_iff_ne.mpr λq=>by
 refine E1_1 O.mods λo e=>?_
 have:=rel.inv.base _ _ e
 rw[←q,(rel.inv.off _ _ own).1] at this;exact bR this
theorem HK(O:ic S P){v:af}{m:MV}(hv:aW n.X v m):Sd S f (dM S f (call (.builtin "len") [v])) RV (MY m) n:=by
 refine fE (T:=λv=>dM S f (call (.builtin "len") [v])) hv (λl b t=>Sd.need λhz=>Sd.ret λz_ g d tk os Q E H=>?_) (gZ (T:=λv=>dM S f (call (.builtin "len") [v])) hv (λvs a its k gg r=>Sd.need λhz=>Sd.ret λ⟨σ,rel⟩ g d tk os Q E H=>?_)
  (Gr (T:=λv=>dM S f (call (.builtin "len") [v])) hv (λb a gg=>Sd.need λhz=>Sd.ret λ⟨σ,rel⟩ g d tk os Q E H=>?_) (i_ (T:=λv=>dM S f (call (.builtin "len") [v])) hv (λp hd=>jh λob=>?_) .no)))
 ·have hz:=gM hz
  unfold aB at hz
  exact len_bytes (by rw[aG];exact aa hz (by decide)) (H _ _ (.pv (by rw[aG];exact .int)))
 ·have hz:=gM hz
  unfold aB at hz
  have hl:=r.length
  exact call_len_list (s:=⟨n.h,g,d,tk,os⟩) (items:=its.toArray) ⟨_,rel.inv.sub _ _ gg,rfl,k,rfl⟩ (by rw[aG];exact fT.mpr (aY (aa (aQ hl) hz) (by decide))) (H _ _ (.pv (by rw[aG,hl];exact .int)))
 ·have hz:=gM hz
  unfold aB at hz
  exact Fg (s:=⟨n.h,g,d,tk,os⟩) (rel.inv.sub _ _ gg) (aa hz (by decide)) λtk tk'=>H _ _ (.pv .int)
 ·refine nF (λrev ⟨gg,own,r⟩=>l6 λhz=>Sd.of' (Sd.ret λ⟨σ,rel⟩ g d tk os Q E H=>?_)) (CB (λb ⟨gg,own⟩=>l6 λhz=>Sd.of' (Sd.ret λ⟨σ,rel⟩ g d tk os Q E H=>?_)) (zS (λex k ⟨gg,own,hl,he⟩=>nH λhex=>l6 λhz=>Sd.of' (Sd.ret λ⟨σ,rel⟩ g d tk os Q E H=>?_)) iM))
  ·have hz:=gM hz
   unfold aB at hz
   have hl:=mH r
   exact call_len_list (s:=⟨n.h,g,d,tk,os⟩) ⟨_,gg,rfl,_,rfl⟩ (by rw[aG];exact fT.mpr (aY (aa (aQ hl) hz) (by decide))) (H _ _ (.pv (by rw[aG,hl];exact .int)))
  ·have hz:=gM hz
   unfold aB at hz
   exact Fg (s:=⟨n.h,g,d,tk,os⟩) gg (aa hz (by decide)) λtk tk'=>H _ _ (.pv .int)
  ·have hz:=gM hz
   unfold aB at hz
   have he:=he hex
   exact call_len_dict (s:=⟨n.h,g,d,tk,os⟩) (HT O rel own) gg (fT.mpr (aY (aa hl hz) (by decide))) (H _ _ (.pv (by rw[he];exact .int)))
theorem HR(hf:f.Ok){v w:af}{m o:MV}(hv:aW n.X v m)(hw:aW n.X w o):Sd S f (dM S f (call (.builtin "max") [v,w])) RV (Na f.lv m o) n:=by
 refine eu (T:=λv=>dM S f (call (.builtin "max") [v,w])) hv (λl i t=>eu (T:=λw=>dM S f (call (.builtin "max") [_,w])) hw (λl' j u=>Sd.need λhl=>Sd.grown λz_ g d tk os Q E H=>?_) .no) .no
 refine max_two_ints (hf.handled (gM hl)) λh' tk' hk=>H h' tk' _ hk (.pv ?_)
 rw[HB]
 split <;> exact .int
theorem E7{v w:af}{m o:MV}(hv:aW n.X v m)(hw:aW n.X w o):Sd S f (dM S f (call (.builtin "isinstance") [v,w])) RV (Jk m o) n:=by
 refine gZ (T:=λv=>dM S f (call (.builtin "isinstance") [v,w])) hv (λvs a its k gg r=>JN (T:=λw=>dM S f (call (.builtin "isinstance") [_,w])) hw (λx=>nE (λz_ z_=>.no) (λz_ z_=>.no) λT hT=>kE (λe=>Sd.ret λ⟨σ,rel⟩ g d tk os Q E H=>?_) .no) .no) .no
 subst hT e
 exact call_isinstance (isinstance_false_list (by decide) (by kernel_rfl) (by rw[isSubtype_type];kernel_rfl)) ⟨⟨_,rel.inv.sub _ _ gg,rfl⟩,H _ _ (.pv .bool)⟩
theorem yq(hS:S.Ok)(hf:f.Ok)(O:ic S P){id:String}{vs:List af}{args:List MV}{kvs:List (Str×af)}{kw:List (Str×MV)}(hvs:bY n.X vs args)(hkv:dQ n.X kvs kw):
  Sd S f (dM S f (call (.builtin id) vs kvs)) RV (yo f.lv id args kw) n:=by
 refine kE (λe=>?_) (kE (λe=>?_) (kE (λe=>?_) .no))
 ·subst e;exact iz (T:=λvs kvs=>dM S f (call (.builtin "len") vs kvs)) hvs hkv λv m hv=>HK O hv
 ·subst e;exact t8 (T:=λvs kvs=>dM S f (call (.builtin "max") vs kvs)) hvs hkv λv m w o hv hw=>HR hf hv hw
 ·subst e;exact t8 (T:=λvs kvs=>dM S f (call (.builtin "isinstance") vs kvs)) hvs hkv λv m w o hv hw=>E7 hv hw
theorem C1{prog:cP}{w:cE}{A:bC}{E:af→ah→Prop}{s:ah}{l:au}{k:Int}{t:Tok}{m:Nat}{Q:af→ah→Prop}(g:s.heap.get? l=some (fh [.int k t] m))(h0:0≤k)(h1:k<256)(hh:A.handled=none)
  (hQ:∀ h' t k',(∀ b o,s.heap.get? b=some o→h'.get? b=some o)→Q (.bytes [fX k.toNat].toArray t) {s with heap:=h',toks:=k'}):wpAny (model prog w) A (call (.type "bytes") [.ref l]) Q E s:=
 call_bytes_ints (ns:=[k]) (vs:=[.int k t]) ⟨_,g,rfl,m,rfl⟩ (.cons _ _ .nil) (λm hm=>by rw[az] at hm;subst hm;exact⟨h0,h1⟩) (cB (by rw[sizeLine_eq];rfl)) hh hQ
theorem CZ(hf:f.Ok){v:af}{m:MV}(hv:aW n.X v m):Sd S f (dM S f (call (.type "bytes") [v])) RV (El f.lv m) n:=by
 refine Gr (T:=λv=>dM S f (call (.type "bytes") [v])) hv (λb a gg=>Sd.need λhz=>Sd.ret λ⟨σ,rel⟩ g d tk os Q E H=>?_) (gZ (T:=λv=>dM S f (call (.type "bytes") [v])) hv (λvs a its k gg r=>Bx λp hp=>?_)
  (i_ (T:=λv=>dM S f (call (.type "bytes") [v])) hv (λp hd=>jh λob=>CB (λb ⟨gg,own⟩=>l6 λhz=>Sd.of' (Sd.ret λ⟨σ,rel⟩ g d tk os Q E H=>?_)) iM) .no))
 ·exact n9 (s:=⟨n.h,g,d,tk,os⟩) (rel.inv.sub _ _ gg) (Lo hz) λt k=>H _ _ (.pv .bytes)
 ·subst hp
  cases p with
  | int l i=>
   refine Sd.need λhz=>Sd.grown λ⟨σ,rel⟩ g d tk os Q E H=>?_
   refine fO λzz=>?_
   obtain⟨hz,c2⟩:=aj.mp hz
   obtain⟨c0,c1⟩:=aj.mp hz
   obtain⟨w,ws,rfl,r1,r2⟩:=r.inv
   cases r2.inv
   obtain⟨t,rfl⟩:=r1.inv
   refine zz ?_
   exact C1 (s:=⟨n.h,g,d,tk,os⟩) (rel.inv.sub _ _ gg) (of_decide_eq_true c1) (of_decide_eq_true c2) (hf.handled (gM c0)) λh' t' k' hk=>H h' k' _ hk (.pv .bytes)
  | _=>exact .no
 ·exact n9 (s:=⟨n.h,g,d,tk,os⟩) gg (Lo hz) λt k=>H _ _ (.pv .bytes)
theorem Dp{p:Pos}:Sd S f (WP S f (call (.type "bytearray") [])) RV (M.new (P.K6 p) (.ba [])) n:=by
 refine Sd.new λσ rel k hk g d tk os Q E H=>A9 (s:=⟨n.h,g,d,tk,os⟩) λh' e1 e2=>H h' n.h.objs.size [n.h.objs.size] tk (.ref n.h.objs.size) e2 (.ba (by simp only[if_true];exact e1) (by simp)) (by
  intro a ha;rw[az] at ha;subst ha;exact⟨bJ _,_,e1⟩) ?_
 have:=aW.loc (X:=n.X.name k n.h.objs.size [n.h.objs.size]) (n:=k) (cR)
 simpa using this
theorem GP(hS:S.Ok)(hf:f.Ok)(O:ic S P){p:Pos}{T:String}{vs:List af}{args:List MV}{kvs:List (Str×af)}{kw:List (Str×MV)}(hvs:bY n.X vs args)(hkv:dQ n.X kvs kw):
  Sd S f (WP S f (call (.type T) vs kvs)) RV (JW P f.lv p T args kw) n:=by
 refine kE (λe=>?_) (kE (λe=>?_) (kE (λe=>?_) (kE (λe=>?_) .no)))
 ·subst e
  refine zK (T:=λvs kvs=>WP S f (call (.type "bytearray") vs kvs)) hvs hkv Dp (iz (T:=λvs kvs=>WP S f (call (.type "bytearray") vs kvs)) hvs hkv λv m hv=>?_)
  refine fE (T:=λv=>WP S f (call (.type "bytearray") [v])) hv (λl b t=>Sd.need λhz=>Sd.frozen λ⟨σ,rel⟩ g d tk os Q E H=>?_) .no
  exact A_ (s:=⟨n.h,g,d,tk,os⟩) (Lo hz) λh' e1 e2=>H h' _ _ tk _ e2 (bJ _) e1 (.pv (.ba (if_pos rfl)))
 ·subst e;exact iz (T:=λvs kvs=>WP S f (call (.type "bytes") vs kvs)) hvs hkv λv m hv=>(CZ hf hv).lift
 ·subst e
  refine iz (T:=λvs kvs=>WP S f (call (.type "list") vs kvs)) hvs hkv λv m hv=>Sd.lift ?_
  refine gZ (T:=λv=>dM S f (call (.type "list") [v])) hv (λvs a its k gg r=>Sd.need λhz=>Sd.frozen λ⟨σ,rel⟩ g d tk os Q E H=>?_) .no
  refine call_list_seq (s:=⟨n.h,g,d,tk,os⟩) a (.inl rfl) (rel.inv.sub _ _ gg) rfl rfl (λh' c' e2 e1=>H h' _ _ tk _ e2 (bJ _) e1 (.pv (.list (its:=its) (n:=c') ?_ (r.mono (vz ⟨σ,rel⟩ (bJ _)))))) (szl r.length hz)
  exact if_pos rfl
 ·subst e
  refine iz (T:=λvs kvs=>WP S f (call (.type "int") vs kvs)) hvs hkv λv m hv=>Sd.lift ?_
  exact eu (T:=λv=>dM S f (call (.type "int") [v])) hv (λl i t=>Sd.ret λz_ g d tk os Q E H=>call_int_int (H _ _ (.pv .int))) .no
end
end
section
open Builtin
section
variable{S:Sx}{f:Fx}{sc:List (Str×aE)}{P:Pg}{ih:Ih}{n:Snap}
theorem BY(hI:dX S f ih){pos:Pos}{g:af}{first:List af}{es:List aJ}{ks:List jQ}{K:List MV→List (Str×MV)→M MV}(ha:dJ es=true)(hk:gU ks=true)
  (hg:∀ n',n.X.le n'.X→(∃ σ,bu S f σ n')→∃ k,cH (model S.prog S.w) n'.h (keeperOf g) k)
  (hc:∀ n',dB f.own f.cZ f.cl n n'→∀ vs args kvs kw,bY n'.X vs args→dQ n'.X kvs kw→Sd S f (WP S f (call g (first++vs) kvs)) RV (K args kw) n'):
  Sd S f (WP S f (callWith pos g first (backTo pos (starEach es f.env)) (backToKw pos (keywordEach ks f.env)))) RV ((wK ih es).andThen λvs=>(AU ih ks).andThen λkv=>K vs kv) n:=by
 refine Sd.imp (T:=λQ E s=>aA (model S.prog S.w) f.A (spliced (backTo pos (starEach es f.env))) (λvs s₁=>aA (model S.prog S.w) f.A (evalAll ((backToKw pos (keywordEach ks f.env)).map (·.2))) (λkv s₂=>
   (∃ k,cH (model S.prog S.w) s₂.heap (keeperOf g) k)∧aA (model S.prog S.w) f.A (call g (first++vs) (((backToKw pos (keywordEach ks f.env)).filterMap (·.1)).zip kv)) Q E s₂) E s₁) E s) ?_ (λQ E s h=>B3 ha hk h)
 refine Sd.bind (R':=LC) (AA hI pos es n ha) λn1 jf vs args hvs=>?_
 refine Sd.bind (U:=λkvs Q E s=>(∃ k,cH (model S.prog S.w) s.heap (keeperOf g) k)∧aA (model S.prog S.w) f.A (call g (first++vs) kvs) Q E s) (R':=LZ) (Ff hI pos ks n1 hk) λn2 iw kvs kw hkv=>?_
 intro σ Q rel hm g' d tk os Q' E' P'
 exact⟨hg n2 (jf.le.trans iw.le) ⟨σ,rel⟩,hc n2 (jf.trans iw) vs args kvs kw (hvs.mono iw.le) hkv σ Q rel hm g' d tk os Q' E' P'⟩
theorem Ce(hS:S.Ok){g:af}(h:keepIn S.K g=true):∀ n',n.X.le n'.X→(∃ σ,bu S f σ n')→∃ k,cH (model S.prog S.w) n'.h (keeperOf g) k:=λn' _ ⟨σ,rel⟩=>by
 refine E1_2 (looks_keep (M:=model S.prog S.w) h (hS.X.keeps rel.dU)) λk z_ L=>?_
 exact⟨k,L⟩
theorem Mt.keep(hS:S.Ok){mt:Mt}(h:mt.Good S):∀ n',n.X.le n'.X→(∃ σ,bu S f σ n')→∃ k,cH (model S.prog S.w) n'.h (keeperOf mt.val) k:=by
 intro n' le hr
 cases mt with
 | fn g ns=>exact Ce (n:=n) hS h n' le hr
 | append b=>cases b <;> exact⟨_,ql rfl⟩
 | _=>exact⟨_,ql rfl⟩
theorem zh{o:aJ}{name:Str}{ap p:Pos}{args:List aJ}{ks:List jQ}{env:Env}{A:bC}{E:af→ah→Prop}{s:ah}{Q:af→ah→Prop}(ho:r8 o=false)(hp:aX ap.endLine p.line=true)
  (hn:aO 29 (args.length+ks.length)=false)(ha:dJ args=true)(hk:gU ks=true)
  (h:WP S ⟨A,env,[],0⟩ (eval o env) (λov s1=>aA (model S.prog S.w) A (getMethod ov name (do return (←importBound o env).getD true)) (λr s2=>aA (model S.prog S.w) A (callWith p r.1 r.2 (backTo p (starEach args env)) (backToKw p (keywordEach ks env))) Q E s2) E s1) E s):
  aA (model S.prog S.w) A (eval (.Call (.Attribute o name ap) args ks p) env) Q E s:=by
 have e1:eval (.Call (.Attribute o name ap) args ks p) env=(do
   let ov ←eval o env
   standAt ap.atName
   methodCall o name ap p env ov (args.length+ks.length) (backTo p (starEach args env)) (backToKw p (keywordEach ks env))):=by
  cases o <;> first | (cases ho;done) | with_unfolding_all rfl
 rw[e1]
 refine ai (aN h λov s1 h1=>ai (bG ?_))
 have few:methodCallForm (args.length+ks.length) (backTo p (starEach args env)) (backToKw p (keywordEach ks env))=true:=by
  unfold methodCallForm
  have a1:=sO p env args ha
  have a2:=(qH p env ks hk).2
  have a3:(backTo p (starEach args env)).all (!·.1)=true:=by
   rw[jH];intro x hx
   rw[List.any_eq_false] at a1
   have:=a1 x hx
   simpa using this
  rw[a3,a2]
  have hlt:args.length+ks.length<29:=by
   rcases fq (args.length+ks.length) 29 with h | h
   ·exact h
   ·rw[bx h] at hn;cases hn
  simp only[Bool.true_and,decide_eq_true_eq]
  split <;> omega
 unfold methodCall
 rw[few]
 refine ai (aM ?_)
 show aA _ _ (getMethod ov name _) _ _ _
 refine aN h1 λr s2 h2=>?_
 obtain⟨g,first⟩:=r
 have e2:methodCallPos true o env ap p=pure p:=by
  unfold methodCallPos
  rw[bX hp];simp
 show aA _ _ (methodCallPos true o env ap p>>=_) _ _ _
 rw[e2]
 exact ai (aD h2)
theorem Dk(hS:S.Ok)(hf:f.Ok)(O:ic S P)(hI:dX S f ih){o:aJ}{name:Str}{ap p:Pos}{args:List aJ}{ks:List jQ}:
  Sd S f (WP S f (eval (.Call (.Attribute o name ap) args ks p) f.env)) RV (Jp S f P ih o name ap args ks p) n:=by
 refine bU λho=>bU λhp=>bU λhn=>bU λha=>bU λhk=>?_
 refine Sd.imp (T:=λQ E s=>WP S f (eval o f.env) (λov s1=>aA (model S.prog S.w) f.A (getMethod ov name (do return (←importBound o f.env).getD true)) (λr s2=>aA (model S.prog S.w) f.A (callWith p r.1 r.2 (backTo p (starEach args f.env)) (backToKw p (keywordEach ks f.env))) Q E s2) E s1) E s) ?_
  (λQ E s h=>zh (p8 ho) hp (p8 hn) ha hk h)
 refine Sd.bind (R':=RV) (hI.ev o n) λn1 jf ov m hov=>?_
 refine Sd.bind (EM hS O hov).lift λn2 iw r mt hr=>?_
 obtain⟨rfl,good⟩:=hr
 refine BY hI ha hk (Mt.keep hS good) λn3 pM vs args kvs kw hvs hkv=>?_
 exact IU hS hf O ((hov.mono iw.le).mono pM.le) hvs hkv
theorem Ep(hS:S.Ok)(hf:f.Ok)(O:ic S P){p:Pos}{g:af}{fv:MV}{vs:List af}{args:List MV}{kvs:List (Str×af)}{kw:List (Str×MV)}(hg:aW n.X g fv)(hvs:bY n.X vs args)(hkv:dQ n.X kvs kw):
  Sd S f (WP S f (call g vs kvs)) RV (Eo S f P p fv args kw) n:=by
 have key:∀ ns,Sd S f (WP S f (call g vs kvs)) RV (M.call S f fv ns args kw) n:=λns σ Q rel hm=>
  (sW (room_in hf) rel hg hvs hkv hm).imp λQ E s=>jo
 cases fv with
 | lX vs=>exact .no
 | loc k=>exact gh λns z_=>key ns
 | pv q=>cases q with
  | sv w=>
   refine nE (λa z_=>gh λns z_=>key ns) (λid e=>?_) (λT e=>?_)
   ·cases(OU hg).trans e;exact(yq hS hf O hvs hkv).lift
   ·cases(OU hg).trans e;exact GP hS hf O hvs hkv
  | _=>exact .no
theorem ID{α:Type}{T:PT α}{R:Rc→α→MV→Prop}(hS:S.Ok)(O:ic S P){g:af}{fv:MV}{k:M MV}(hg:aW n.X g fv)
  (h:(∀ n',n.X.le n'.X→(∃ σ,bu S f σ n')→∃ k,cH (model S.prog S.w) n'.h (keeperOf g) k)→Sd S f T R k n):Sd S f T R (BF P fv k) n:=by
 cases fv with
 | lX vs=>exact .no
 | loc k=>
  obtain⟨rfl,hd⟩:=ur hg
  refine jh λob=>Iz (λa b c=>Sd.of' (h ?_)) iM
  obtain⟨_,_,g1,_⟩:=c
  exact λn' le ⟨σ',rel'⟩=>⟨.frame,(qp (part:=none) (rel'.inv.sub _ _ (le.G _ _ g1))).andThen .now⟩
 | pv q=>cases q with
  | sv w=>
   cases OU hg
   refine nE (λa e=>gh λns hns=>?_) (λid e=>?_) (λT e=>?_)
   ·subst e;exact h (Ce hS (O.needs _ _ hns))
   ·subst e;exact h λz_ z_ z_=>⟨_,ql rfl⟩
   ·subst e;exact h λz_ z_ z_=>⟨_,ql rfl⟩
  | _=>exact .no
theorem G_(hS:S.Ok)(hf:f.Ok)(O:ic S P)(hI:dX S f ih){g:aJ}{args:List aJ}{ks:List jQ}{p:Pos}
  (he:eval (.Call g args ks p) f.env=(do callWith p (←eval g f.env) [] (backTo p (starEach args f.env)) (backToKw p (keywordEach ks f.env)))):
  Sd S f (WP S f (eval (.Call g args ks p) f.env)) RV (M.when (dJ args) (M.when (gU ks) ((ih.ev g).andThen λfv=>BF P fv ((wK ih args).andThen λvs=>(AU ih ks).andThen λkv=>Eo S f P p fv vs kv)))) n:=by
 refine bU λha=>bU λhk=>?_
 refine Sd.imp (T:=λQ E s=>WP S f (eval g f.env) (λfv s1=>WP S f (callWith p fv [] (backTo p (starEach args f.env)) (backToKw p (keywordEach ks f.env))) Q E s1) E s) ?_ (λQ E s h=>?_)
 ·refine Sd.bind (R':=RV) (hI.ev g n) λn1 jf gv m hg=>?_
  refine ID hS O hg λkeep=>BY hI ha hk keep λn2 iw vs args kvs kw hvs hkv=>?_
  exact Ep hS hf O (hg.mono iw.le) hvs hkv
 ·show aA _ _ (eval (.Call g args ks p) f.env) Q E s
  rw[he];exact ai h
end
end
section
open Builtin
section
variable{S:Sx}{f:Fx}{sc:List (Str×aE)}{P:Pg}{ih:Ih}{n:Snap}
theorem qF{X:Rc}(ms:List MV):∀ {ps:List PV}{vs:List af},Fb ms=some ps→bY X vs ms→bQ X.P X.G vs ps:=by
 induction ms with
 | nil=>intro ps vs e h;cases e;cases h.inv;exact .nil
 | cons m r ihr=>
  intro ps vs e h
  obtain⟨v,vs,rfl,h,t⟩:=h.inv
  cases m with
  | pv p=>
   have e:aF (Fb r) (λq=>some (p::q)) none=some ps:=e
   cases q:Fb r with
   | none=>rw[q] at e;exact bR e
   | some q'=>rw[q] at e;cases e;exact .cons (nU h) (ihr q t)
  | _=>exact bR e
theorem bY.grow{X:Rc}{G:au→Option Obj}(k:∀ a o,X.G a=some o→G a=some o){vs ms}(h:bY X vs ms):bY {X with G:=G} vs ms:=bY.mono (X:=X) (X':={X with G:=G}) (Rc.le.mk rfl k (λz_ h=>h) (λz_ z_=>rfl)) h
theorem oU(hf:∃ σ,bu S f σ n)(o:Obj):∀ c ob,n.X.G c=some ob→(λa=>if a=n.h.objs.size then some o else n.X.G a) c=some ob:=λc ob e=>by
 refine E1_1 hf λσ rel=>?_
 show(if c=n.h.objs.size then some o else n.X.G c)=some ob
 rw[if_neg];exact e
 intro IX
 subst IX
 have:=rel.inv.sub _ _ e
 rw[bJ] at this;exact bR this
theorem IS{vs:List af}{ms:List MV}(h:bY n.X vs ms)(hz:aO ms.length 1000=true):Sd S f (dM S f (newTuple vs)) RV (Lv ms) n:=by
 have hl:vs.length≤sizeLine:=by rw[sizeLine_eq,h.length];exact aa (gM hz) (by decide)
 refine ny (λps hp=>?_) λz_=>?_
 ·exact Sd.l_ λhr g d tk os Q E H=>wpAny_newTuple (H (o8 vs 0) tk _ rfl (.pv (.tup (its:=vs) (n:=0) (if_pos rfl) ((qF ms hp h).mono (oU hr _))))) hl
 ·exact Sd.l_ λhr g d tk os Q E H=>wpAny_newTuple (H (o8 vs 0) tk _ rfl (.lX (its:=vs) (n:=0) (if_pos rfl) (h.grow (oU hr _)))) hl
theorem Fj{p:Pos}{vs:List af}{ms:List MV}(h:bY n.X vs ms)(hz:aO ms.length 1000=true):Sd S f (dM S f (newList vs)) RV (Fi P p ms) n:=by
 have hl:vs.length≤sizeLine:=by rw[sizeLine_eq,h.length];exact aa (gM hz) (by decide)
 refine gh λps hp=>kX (λz_=>?_) λz_=>?_
 ·exact Sd.l_ λhr g d tk os Q E H=>wpAny_newList (H (fh vs 0) tk _ rfl (.pv (.list (its:=vs) (n:=0) (if_pos rfl) ((qF ms hp h).mono (oU hr _))))) hl
 ·refine Sd.new λσ rel k hk g d tk os Q E H=>wpAny_newList (H _ n.h.objs.size [n.h.objs.size] tk _ (λc ob e=>aq _ e) (.list (its:=vs) (k:=0) ?_ ?_ ?_) ?_ ?_) hl
  ·simp only[if_true];exact aL _ rfl
  ·simp
  ·exact(qF ms hp h).reverse
  ·intro a ha;rw[az] at ha;subst ha;exact⟨bJ _,_,aL _ rfl⟩
  ·have:=aW.loc (X:=n.X.name k n.h.objs.size [n.h.objs.size]) (n:=k) (cR)
   simpa using this
theorem B8(hI:dX S f ih)(pos:Pos)(es:List aJ)(n:Snap){T:List af→PT af}{K:List MV→M MV}(h:∀ n',∀ vs ms,bY n'.X vs ms→Sd S f (T vs) RV (K ms) n'):
  Sd S f (λQ E s=>aA (model S.prog S.w) f.A (spliced (backTo pos (starEach es f.env))) (λvs s'=>T vs Q E s') E s) RV ((Hj ih es).andThen K) n:=by
 cases hp:dJ es with
 | true=>
  have e:Hj ih es=wK ih es:=by unfold Hj;rw[hp];rfl
  rw[e]
  exact Sd.bind (R':=LC) (AA hI pos es n hp) λn1 jf vs ms hvs=>h n1 vs ms hvs
 | false=>
  have e:Hj ih es=M.no:=by unfold Hj;rw[hp];rfl
  rw[e]
  exact λσ Q z_ h=>h.elim
theorem GO(hI:dX S f ih)(es:List aJ)(k:Nat)(pos:Pos)(n:Snap):Sd S f (WP S f (eval (.Tuple es k pos) f.env)) RV ((Hj ih es).andThen λvs=>M.when (aO vs.length 1000) (Lv vs)) n:=
 Sd.imp (B8 hI pos es n (T:=λvs=>WP S f (newTuple vs)) λn' vs ms h=>bU λhz=>(IS h hz).lift) (λQ E s h=>HZ h)
theorem HM(hI:dX S f ih)(es:List aJ)(pos:Pos)(n:Snap):Sd S f (WP S f (eval (.List es pos) f.env)) RV ((Hj ih es).andThen λvs=>M.when (aO vs.length 1000) (Fi P pos vs)) n:=
 Sd.imp (B8 hI pos es n (T:=λvs=>WP S f (newList vs)) λn' vs ms h=>bU λhz=>(Fj h hz).lift) (λQ E s h=>KY h)
theorem IV(j:Nat)(k:Nat)(cp pos:Pos)(n:Snap):Sd S f (WP S f (eval (.UnaryOp .USub (.Constant (.int (.ofNat j)) k cp) pos) f.env)) RV (M.ret (.pv (.int true (-(jG j))))) n:=by
 refine Sd.ret λz_ g d tk os Q E H=>qI (bS (wpAny_Constant_int (bS (PyProof.Rows.neg_int (H _ _ (.pv .int))))))
theorem yZ(hf:f.Ok)(hn:f.env.scope.names=sc){σ:St}(rel:bu S f σ n){x:Str}{v:MV}(hd:ri x=false)(hk:lk sc x=some .local)(hv:lk σ.locs x=some v)(pos:Pos):
  ∃ rv,aW n.X rv v∧∀ g d tk os (Q:af→ah→Prop) E,Q rv ⟨n.h,g,d,tk,os⟩→wpAny (model S.prog S.w) f.A (eval (.Name x pos) f.env) Q E ⟨n.h,g,d,tk,os⟩:=by
 refine A2 (dW.mp hd) λhd hc=>?_
 have hd':(x == ("__debug__":Str))=false:=beq_eq_false_iff_ne.mpr (iE hd)
 refine E1_3 rel.locs λm hm hl hu=>?_
 refine E1_2 (hl x v hv) λrv EZ hx=>?_
 rw[ee hn,hk] at hx
 exact⟨rv,EZ,λg d tk os Q E h=>wpAny_Name (wpAny_loadName_local hf.kind (by rw[ee hn,hk]) hm hx h) hd'⟩
theorem y9{x:Str}(h:isLocal sc x=true):lk sc x=some .local:=by
 unfold isLocal at h
 cases q:lk sc x with
 | none=>rw[q] at h;exact gy h
 | some k=>
  rw[q] at h
  cases k with
  | «local»=>rfl
  | _=>exact gy h
theorem IM(hf:f.Ok)(hn:f.env.scope.names=sc){x y:Str}{xp ap yp sp up cp p:Pos}{kc:Nat}(hp:aX ap.endLine p.line=true){ro rv:af}{ov v:MV}(Qc:aW n.X ro ov)(EZ:aW n.X rv v)
  (ex:∀ g d tk os (Q:af→ah→Prop) E,Q ro ⟨n.h,g,d,tk,os⟩→wpAny (model S.prog S.w) f.A (eval (.Name x xp) f.env) Q E ⟨n.h,g,d,tk,os⟩)
  (ey:∀ g d tk os (Q:af→ah→Prop) E,Q rv ⟨n.h,g,d,tk,os⟩→wpAny (model S.prog S.w) f.A (eval (.Name y yp) f.env) Q E ⟨n.h,g,d,tk,os⟩):
  Sd S f (WP S f (eval (.Call (.Attribute (.Subscript (.Name x xp) (.UnaryOp .USub (.Constant (.int 1) kc cp) up) sp) "append" ap) [.Name y yp] [] p) f.env)) RV (Oh ov v) n:=by
 cases ov with
 | loc k=>
  refine A2 (ur Qc) λAf SW=>?_
  subst Af
  refine vN EZ (λpv S8=>jh λob=>qe (λrs os=>CC λrev bz e=>?_) iM) .no
  subst e
  obtain@⟨as,j,g,own,nd,st⟩:=os
  intro σ Q rel ho hm
  refine A2 (h_ hm) λhz hm=>?_
  refine A2 (aj.mp hz) λz1 z2=>?_
  cases as with
  | nil=>cases st
  | cons a as=>
  refine E2_2 (IB st) λits jj ga ra=>?_
  have at_:=Lr rel ho g own nd st S8 (gM z1) hm
  intro gg d tk os Q' E' P'
  have keep:∀ {s2:ah},∃ k,cH (model S.prog S.w) s2.heap (keeperOf (.builtin "list.append")) k:=⟨_,ql rfl⟩
  refine zh rfl hp rfl rfl rfl (mV (w:=S.w) (prog:=S.prog) (bS (ex gg d tk os _ _ (qI (bS (wpAny_Constant_int (bS (PyProof.Rows.neg_int (bS ?_)))))))))
  refine yP (s:=⟨n.h,gg,d,tk+1+1,os⟩) (G:=λa=>n.h.get? a) (λz_ z_ e=>e) rfl g (v:=.ref a) (by simp) (bS ?_)
  refine r6 (s:=⟨n.h,gg,d,tk+1+1,os⟩) ga rfl rfl rD rE ?_
  refine B3 rfl rfl (kq (bS (ey gg d (tk+1+1) os _ _ (ly (aD ⟨keep,?_⟩)))))
  exact bS (at_ gg d (tk+1+1) os Q' E' P')
 | _=>exact .no
theorem BH(hf:f.Ok)(hn:f.env.scope.names=sc){x y:Str}{xp ap yp sp up cp p:Pos}{kc:Nat}(hp:aX ap.endLine p.line=true):
  Sd S f (WP S f (eval (.Call (.Attribute (.Subscript (.Name x xp) (.UnaryOp .USub (.Constant (.int 1) kc cp) up) sp) "append" ap) [.Name y yp] [] p) f.env)) RV (CM sc x y) n:=by
 refine bU λhd=>bU λhk=>Sd.get λσ rel Q hm=>?_
 refine A2 (aj.mp hk) λhkx S3=>?_
 refine A2 (dW.mp (p8 hd)) λhdx SX=>?_
 cases OJ:lk σ.locs x with
 | none=>rw[OJ] at hm;exact hm.elim
 | some ov=>
  cases Qe:lk σ.locs y with
  | none=>rw[OJ,Qe] at hm;exact hm.elim
  | some v=>
   rw[OJ,Qe] at hm
   refine E1_2 (yZ hf hn rel hdx (y9 hkx) OJ xp) λro Qc ex=>?_
   refine E1_2 (yZ hf hn rel SX (y9 S3) Qe yp) λrv EZ ey=>?_
   exact IM hf hn hp Qc EZ ex ey σ Q rel hm
theorem AV{α:Type}{Pr:α→Prop}{o:aJ}{k:Str→α}{e:α}(h:∀ x xp kc cp up sp,o= .Subscript (.Name x xp) (.UnaryOp .USub (.Constant (.int 1) kc cp) up) sp→Pr (k x))(h':Pr e):Pr (lastOf o k e):=by
 refine uw (λa i q e1=>vZ (λx q2 e2=>x9 (λop c q3 e3=>yy (λe4=>oB (λc q5 r5 e5=>yt (λi e6=>?_) h') h') h') h') h') h'
 unfold E1 intLit
 cases i with
 | negSucc j=>exact h'
 | ofNat j=>
  refine yy (λe7=>?_) h'
  cases bX e7
  subst e6 e5 e3 e2 e1
  cases op with
  | USub=>exact h _ _ _ _ _ _ rfl
  | _=>exact gy e4
theorem Em(hS:S.Ok)(hf:f.Ok)(O:ic S P)(hn:f.env.scope.names=sc)(hI:dX S f ih)(g:aJ)(args:List aJ)(ks:List jQ)(p:Pos):Sd S f (WP S f (eval (.Call g args ks p) f.env)) RV (I6 S f P sc ih g args ks p) n:=by
 cases g with
 | Attribute o name ap=>
  refine AV (Pr:=λm=>Sd S f (WP S f (eval (.Call (.Attribute o name ap) args ks p) f.env)) RV m n) (λx xp kc cp up sp eo=>?_) (Dk hS hf O hI)
  cases args with
  | nil=>exact .no
  | cons a r=>cases r with
   | cons b q=>exact .no
   | nil=>cases ks with
    | cons b q=>exact .no
    | nil=>cases a with
     | Name y yp=>
      refine bU λh1=>bU λh2=>?_
      cases bZ.mp h1
      subst eo
      exact BH hf hn h2
     | _=>exact .no
 | _=>exact G_ hS hf O hI rfl
end
end
section
variable{S:Sx}{f:Fx}{sc:List (Str×aE)}{P:Pg}{ih:Ih}{n:Snap}
theorem wh{e:aJ}:Sd S f (WP S f (eval e f.env)) RV (λσ Q=>sH S f e σ Q) n:=λσ Q rel h=>h.run n rel
theorem kY{e:dO}:Sd S f (WP S f (exec e f.env)) dc (λσ Q=>gE S f e σ Q) n:=λσ Q rel h=>h.run n rel
theorem Ln(hf:f.Ok)(hI:dX S f ih)(v i:aJ)(p:Pos)(n:Snap):Sd S f (WP S f (eval (.Subscript v i p) f.env)) RV (Oa ih v i) n:=by
 have plain:lY i=true→Sd S f (WP S f (eval (.Subscript v i p) f.env)) RV ((ih.ev v).andThen λo=>(ih.ev i).andThen λk=>KA o k) n:=λhc=>by
  refine Sd.imp (T:=λQ E s=>WP S f (eval v f.env) (λa s1=>WP S f (eval i f.env) (λb s2=>WP S f (subscriptTail _ _ a b) Q E s2) E s1) E s) ?_ (λQ E s h=>mV h)
  refine Sd.bind (R':=RV) (hI.ev _ n) λn1 jf a x ha=>?_
  refine Sd.bind (R':=RV) (hI.ev _ n1) λn2 iw b y hb=>?_
  exact(Hw hf hc (ha.mono iw.le) hb).lift
 cases i with
 | Slice lo hi st q=>cases st with
  | none=>exact Gv hf hI _ _ _ _ _ n
  | some e=>exact .no
 | _=>exact plain rfl
theorem Ms(hS:S.Ok)(hf:f.Ok)(O:ic S P)(hn:f.env.scope.names=sc)(hI:dX S f ih)(e:aJ)(n:Snap):Sd S f (WP S f (eval e f.env)) RV (Gy S f P sc ih e) n:=by
 cases e with
 | Name x p=>exact(xo hS hf O hn _ _).lift
 | Constant c k p=>exact(Ex hf _ _ _).lift
 | BinOp l op r p=>
  refine Sd.imp (T:=λQ E s=>WP S f (eval l f.env) (λa s1=>WP S f (eval r f.env) (λb s2=>WP S f (binaryOp op a b) Q E s2) E s1) E s) ?_ (λQ E s h=>HX h)
  refine Sd.bind (R':=RV) (hI.ev _ n) λn1 jf a x ha=>?_
  refine Sd.bind (R':=RV) (hI.ev _ n1) λn2 iw b y hb=>?_
  exact(G8 (ha.mono iw.le) hb).lift
 | UnaryOp op c p=>cases op with
  | Not=>
   refine Sd.imp (T:=λQ E s=>WP S f (eval c f.env) (λa s1=>WP S f (unaryOp .Not a) Q E s1) E s) ?_ (λQ E s h=>qI h)
   exact Sd.bind (R':=RV) (hI.ev _ n) λn1 jf a x ha=>(K7 ha).lift
  | USub=>
   refine oB (Pr:=λm=>Sd S f (WP S f (eval (.UnaryOp .USub c p) f.env)) RV m n) (λc k q e1=>yt (Pr:=λm=>Sd S f (WP S f (eval (.UnaryOp .USub _ p) f.env)) RV m n) (λi e2=>?_) .no) .no
   subst e2 e1
   cases i with
   | ofNat j=>exact IV _ _ _ _ n
   | negSucc j=>exact .no
  | _=>exact .no
 | BoolOp op es p=>exact G9 hI _ _ _ n
 | IfExp t b o p=>exact E4 hI _ _ _ _ n
 | Compare l ops rs p=>exact Ay hf hI _ _ _ _ n
 | Attribute v x p=>exact G5 hS hf O hI _ _ _ n
 | Subscript v i p=>exact Ln hf hI v i p n
 | Tuple es k p=>exact GO hI _ _ _ n
 | List es p=>exact HM hI _ _ n
 | Call g args ks p=>exact Em hS hf O hn hI g args ks p
 | ListComp a b c p=>exact wh
 | DictComp a b c d p=>exact wh
 | Dict a b p=>exact wh
 | _=>exact .no
theorem Lu(hf:f.Ok)(hI:dX S f ih)(e:aJ)(n:Snap):Sd S f (WP S f (isTrue e f.env (eval e f.env))) (oJ Bool) (CG ih e) n:=by
 cases e with
 | UnaryOp op c p=>cases op with
  | Not=>exact II hI _ _ _ n
  | _=>exact .no
 | BoolOp op es p=>exact J1 hI _ _ _ _ n
 | IfExp t b o p=>exact DN hI _ _ _ _ _ n
 | Compare l ops rs p=>exact zZ hf hI _ _ _ _ _ n
 | _=>exact DT hI _ n rfl
end
section
variable{S:Sx}{f:Fx}{sc:List (Str×aE)}{P:Pg}{ih:Ih}{n:Snap}
set_option tactic.hygienic true in
theorem AI{σ:St}(rel:bu S f σ n){k:Nat}{rev:List PV}(ho:cN σ.foot k=some (.list rev)):∃ X',dB [] f.cZ [] n ⟨X',n.h⟩∧bu S f {σ with foot:=iF σ.foot k} ⟨X',n.h⟩∧X'.θ k=n.X.θ k∧cy X'.P X'.G (.ref (n.X.θ k)) (.list rev.reverse):=by
 refine A2 (fG rel ho) λhd or=>?_
 cases or with
 | list g own r=>
 rename_i its j
 obtain⟨ev,inv⟩:=lQ (F':=iF σ.foot k) (h':=n.h) (own':=λa=>if n.X.own a=some k then none else n.X.own a) (G':=λa=>if a=n.X.θ k then some (fh its j) else n.X.G a) rel.inv hd
  (λb ob e z_=>e) (λb ob e=>⟨ob,e⟩)
  (λa i hi=>by
   show(if n.X.own a=some k then none else n.X.own a)=some i ↔ _
   by_cases q:n.X.own a=some k
   ·rw[if_pos q,q];constructor
    ·intro h;exact bR h
    ·intro h;cases h;exact absurd rfl hi
   ·rw[if_neg q])
  (λa ha=>by
   have ha:(if n.X.own a=some k then none else n.X.own a)=some k:=ha
   by_cases q:n.X.own a=some k
   ·rw[if_pos q] at ha;exact bR ha
   ·rw[if_neg q] at ha;exact absurd ha q)
  (λa o e=>by
   show(if a=n.X.θ k then _ else _)=_
   rw[if_neg];exact e
   rintro rfl;rw[(rel.inv.off _ _ own).1] at e;exact bR e)
  (λa o e=>by
   have e:(if a=n.X.θ k then some (fh its j) else n.X.G a)=some o:=e
   by_cases q:a=n.X.θ k
   ·rw[if_pos q] at e;cases e;subst q;exact .inr ⟨.inl own,g⟩
   ·rw[if_neg q] at e;exact .inl e)
  (λi ob e=>by
   rw[mP] at e
   by_cases q:k=i
   ·rw[if_pos q] at e;exact bR e
   ·rw[if_neg q] at e;exact .inl ⟨eW q,e⟩) f.cZ
 refine⟨_,ev,rel.pN (σ':={σ with foot:=iF σ.foot k}) ev inv rel.dom rfl rfl,rfl,?_⟩
 have rr:=r.reverse
 rw[dZ] at rr
 exact .list (if_pos rfl) (rr.mono ev.le.G)
theorem Ip{v:af}{m:MV}(p:Pos)(hv:aW n.X v m):Sd S f (λQ E s=>Q v s) RV (NQ P p m) n:=by
 have plain:Sd S f (λQ E s=>Q v s) RV (M.ret m) n:=Sd.ret λz_ g d tk os Q E H=>H v tk hv
 refine kX (λz_=>i_ (T:=λv Q E s=>Q v s) hv (λk hd=>jh λob=>nF (λrev z_ σ Q rel hob hm=>?_) iM) plain) λz_=>plain
 refine E1_4 (AI rel hob) λX' ev rel' PC pr=>?_
 intro g d tk os Q' E' P'
 exact(P' _ tk _ ev.wide rel').1 _ hm _ (.pv pr)
theorem GD{e:aJ}{t:Option aJ}{k:Nat}{env:Env}(h:pT e=true):swapsWith e t k env=pure false:=by
 cases e <;> first | rfl | exact gy h
theorem M1{ns:List Nat}{l:List (Str×MV)}{x:Str}{mv:MV}(h:iB ns l=true)(e:lk l x=some mv):kh ns mv=true:=by
 induction l with
 | nil=>exact bR e
 | cons p r ih=>
  obtain⟨h1,h2⟩:=fQ (show cond (kh ns p.2) (iB ns r) false=true from h)
  have e:cond (bT p.1 x) (some p.2) (lk r x)=some mv:=e
  cases q:bT p.1 x with
  | true=>rw[q] at e;cases e;exact h1
  | false=>rw[q] at e;exact ih h2 e
theorem CRel.keep{fr:List Env}{F G:br}{dom ns:List Nat}{n:Snap}(cr:CRel S fr F dom n)(hp:pull F ns=some G)(hi:ig ns G=true):CRel S fr G (G.map (·.1)) ⟨{n.X with dom:=ns},n.h⟩:=by
 refine A2 (sq ns hp) λe1 e2=>?_
 refine⟨⟨cr.inv.P,cr.inv.base,cr.inv.sub,λk o e=>?_,cr.inv.off⟩,e1.symm,cr.off,cr.frames⟩
 have hk:k ∈ ns:=by rw[←e1];exact(mQ e).2
 exact⟨hk,gQ.part (X:=n.X) (X':={n.X with dom:=ns}) (ns:=ns) ⟨rfl,λz_ z_ e=>e,λz_ h=>h,λz_ z_=>rfl⟩ hk (λz_ h=>h) (cr.inv.foot k o (e2 k o e)).2 (lV hi e)⟩
theorem DM{d:List Nat}{Q:Res cj→St→Prop}{σ:St}{n n':Snap}{own cl:List au}(ev:dB own f.cZ cl n n')(hd:n.X.dom=d)(rel:bu S f σ n')(h:GH d Q σ):∃ nS σ',nS.h=n'.h∧dB own f.cZ cl n nS∧bu S f σ' nS∧Q (.ok .next) σ':=by
 refine fO λzz=>?_
 obtain⟨L,F,D,u⟩:=σ
 refine zz ?_
 have h:cond (aX D.length d.length) (Q (.ok .next) ⟨L,F,D,u⟩) (aF (pull F d) (λG=>cond (ig d G&&iB d L) (Q (.ok .next) ⟨L,G,d,u⟩) (Q (.ok .next) ⟨L,F,D,u⟩)) (Q (.ok .next) ⟨L,F,D,u⟩)):=h
 have old:Q (.ok .next) ⟨L,F,D,u⟩→∃ nS σ',nS.h=n'.h∧dB own f.cZ cl n nS∧bu S f σ' nS∧Q (.ok .next) σ':=λh=>⟨n',_,rfl,ev,rel,h⟩
 cases q1:aX D.length d.length with
 | true=>rw[q1] at h;exact old h
 | false=>
  rw[q1] at h
  cases q2:pull F d with
  | none=>rw[q2] at h;exact old h
  | some G=>
   rw[q2] at h
   have h:cond (ig d G&&iB d L) (Q (.ok .next) ⟨L,G,d,u⟩) (Q (.ok .next) ⟨L,F,D,u⟩):=h
   cases q3:ig d G&&iB d L with
   | false=>rw[q3] at h;exact old h
   | true=>
    rw[q3] at h
    refine A2 (aj.mp q3) λc1 c2=>?_
    have ck:=rel.toCRel.keep q2 c1
    rw[(sq d q2).1] at ck
    refine E1_3 rel.locs λm hm l1 l2=>?_
    refine⟨⟨{n'.X with dom:=d},n'.h⟩,⟨L,G,d,u⟩,rfl,⟨⟨ev.le.P,ev.le.G,λk hk=>by rw[hd] at hk;exact hk,λk hk=>ev.le.θ k hk⟩,ev.keep,ev.live,ev.mW,ev.jt⟩,⟨ck,⟨m,hm,λx mv hx=>?_,l2⟩,rel.kB,rel.cells⟩,h⟩
    refine E1_2 (l1 x mv hx) λv hv hz=>?_
    exact⟨v,aW.part (X:=n'.X) (X':={n'.X with dom:=d}) (ns:=d) ⟨rfl,λz_ z_ e=>e,λz_ h=>h,λz_ z_=>rfl⟩ hv (M1 c2 hx),hz⟩
theorem Hp(hf:f.Ok)(hI:dX S f ih){e:aJ}{pos:Pos}(hc:pT e=true):Sd S f (WP S f (exec (.Expr e pos) f.env)) dc (λσ Q=>ih.ev e σ λr σ'=>Res.casesOn (motive:=λz_=>Prop) r (λz_=>GH σ.dom Q σ') λt=>Q (.exc t) σ') n:=by
 refine Sd.imp (T:=λQ E s=>WP S f (eval e f.env) (λv s1=>WP S f (dropValue e pos v) Q E s1) E s) ?_ (λQ E s h=>?_)
 ·refine λσ Q rel hm g d tk os Q' E' P'=>hI.ev e n σ _ rel hm g d tk os _ _ λn1 GI σ1 jf je=>⟨λm hq v hv=>?_,λt hq ex fl=>?_⟩
  ·refine E2_4 (DM jf rel.dom je hq) λn2 σ2 e1 e2 e3 e4=>?_
   refine bS (wpAny_dropValue ?_)
   rw[←e1]
   exact(P' n2 GI σ2 e2 e3).1 _ e4 _ .next
  ·exact(P' n1 GI σ1 jf je).2 t hq ex fl
 ·show aA _ _ (exec (.Expr e pos) f.env) Q E s
  have hi:interactive f.env=false:=by unfold interactive;rw[hf.kind];rfl
  have e1:exec (.Expr e pos) f.env=(do
    standAt pos
    if interactive f.env then printExpr (eval e f.env)
    else if ←swapsWith e none pos.line f.env then do evalThenUse e f.env λz_=>point;pure .next
    else do dropValue e pos (←eval e f.env)):=rfl
  rw[e1,hi,GD hc]
  exact ai (bG (ai (aD (ai h))))
theorem Bk{t e:aJ}(h:plainT t e=true)(k:Nat)(env:Env):swapsWith e (some t) k env=pure false∧swappedStores [t] e env=pure none:=by
 cases t with
 | Name x p=>cases e <;> first | exact⟨rfl,rfl⟩ | exact gy h
 | Tuple ts k p=>cases e <;> first | exact⟨rfl,rfl⟩ | exact gy h
 | Attribute o n p=>cases e <;> exact⟨rfl,rfl⟩
 | Subscript o n p=>cases e <;> exact⟨rfl,rfl⟩
 | _=>exact gy h
theorem EE{t e:aJ}(h:plainT t e=true)(env:Env)(v:af):assignAll v ((assignEach [t] env).map (·.2))=assign t env v:=by
 cases t <;> first | rfl | (exact gy h;done)
theorem CS(hS:S.Ok)(hf:f.Ok)(hI:dX S f ih){t e:aJ}{pos:Pos}(hp:plainT t e=true):Sd S f (WP S f (exec (.Assign [t] e pos) f.env)) dc ((ih.ev e).andThen λv=>(ih.asg t v).andThen λz_=>M.ret .next) n:=by
 refine Sd.imp (T:=λQ E s=>WP S f (eval e f.env) (λv s1=>WP S f (assign t f.env v) (λz_ s2=>Q .next s2) E s1) E s) ?_ (λQ E s h=>?_)
 ·refine Sd.bind (R':=RV) (hI.ev e n) λn1 jf v m hv=>?_
  exact Sd.post (R':=oJ Unit) (U:=λz_=>Flow.next) (k:=λz_=>cj.next) (hI.asg t v m n1 hv) λn' ev a b h=>.next
 ·show aA _ _ (exec (.Assign [t] e pos) f.env) Q E s
  refine A2 (Bk hp pos.line f.env) λh1 h2=>?_
  have e1:exec (.Assign [t] e pos) f.env=(do
    standAt pos
    if ←swapsWithSole [t] e pos.line f.env then do
     evalThenUse e f.env λv=>assignAll v ((assignEach [t] f.env).map (·.2))
     pure .next
    else do
     let v ←eval e f.env
     assignStores f.env v (←swappedStores [t] e f.env) ((assignEach [t] f.env).map (·.2))):=rfl
  have e2:swapsWithSole [t] e pos.line f.env=pure false:=h1
  rw[e1,e2,h2]
  refine ai (bG (ai (aD (ai (aN h λv s1 h1=>ai (aD ?_))))))
  show aA _ _ (assignAll v ((assignEach [t] f.env).map (·.2))>>=_) _ _ _
  rw[EE hp]
  exact ai (aN h1 λz_ z_ h=>aD h)
theorem Mu(hS:S.Ok)(hf:f.Ok)(hI:dX S f ih)(st:dO)(n:Snap):Sd S f (WP S f (exec st f.env)) dc (Gz S f P ih st) n:=by
 cases st with
 | Pass p=>exact Sd.ret λz_ g d tk os Q E H=>ai (bG (aD (H _ _ .next)))
 | Continue p=>exact Sd.ret λz_ g d tk os Q E H=>ai (bG (aD (H _ _ .cont)))
 | Expr e p=>exact bU λh=>Hp hf hI h
 | Return o p=>cases o with
  | none=>exact Sd.ret λz_ g d tk os Q E H=>ai (bG (aD (H _ _ (.ret (.pv .none)))))
  | some e=>
   refine Sd.imp (T:=λQ E s=>WP S f (eval e f.env) (λv s1=>Q (.ret v) s1) E s) ?_ (λQ E s h=>Fw h)
   refine Sd.bind (R':=RV) (U:=λ(v:af) (Q:Flow→ah→Prop) (E:af→ah→Prop) s=>Q (Flow.ret v) s) (hI.ev _ n) λn1 jf v m hv=>?_
   exact Sd.post (R':=RV) (U:=Flow.ret) (k:=cj.ret) (T:=λQ E s=>Q v s) (Ip _ hv) λn' ev a b h=>.ret h
 | If t b o p=>
  refine Sd.imp (T:=λQ E s=>WP S f (isTrue t f.env (eval t f.env)) (λc s2=>if c then WP S f (execs b f.env) Q E s2 else WP S f (execs o f.env) Q E s2) E s) ?_ (λQ E s h=>Qp h)
  refine Sd.bind (R':=oJ Bool) (hI.qg _ n) λn1 jf v x hv=>?_
  cases hv
  cases v with
  | true=>exact hI.exs _ n1
  | false=>exact hI.exs _ n1
 | Assign ts e p=>cases ts with
  | nil=>exact kY
  | cons t ts=>cases ts with
   | nil=>exact kX (λh=>CS hS hf hI h) λz_=>kY
   | cons _ _=>exact kY
 | While a b c p=>exact kY
 | For a b c d p=>exact kY
 | FunctionDef a b c d e g h i j p=>exact kY
 | Try a b c d p=>exact kY
 | Raise a b p=>exact kY
 | _=>exact .no
theorem Kp(hI:dX S f ih)(ss:List dO)(n:Snap):Sd S f (WP S f (execs ss f.env)) dc (CF ih ss) n:=by
 cases ss with
 | nil=>exact Sd.ret λz_ g d tk os Q E H=>aD (H _ tk .next)
 | cons s r=>
  refine Sd.imp (T:=λQ E s'=>WP S f (exec s f.env) (λfl s1=>match fl with | .next=>WP S f (execs r f.env) Q E s1 | fl=>Q fl s1) E s') ?_ (λQ E s h=>pZ h)
  refine Sd.bind (R':=dc) (U:=λfl Q E s1=>match fl with | .next=>WP S f (execs r f.env) Q E s1 | fl=>Q fl s1) (hI.ex s n) λn1 jf fl m hv=>?_
  cases hv with
  | next=>exact hI.exs r n1
  | cont=>exact Sd.ret λz_ g d tk os Q E H=>H _ tk .cont
  | brk=>exact Sd.ret λz_ g d tk os Q E H=>H _ tk .brk
  | ret h=>exact Sd.ret λz_ g d tk os Q E H=>H _ tk (.ret h)
theorem DF(hS:S.Ok)(hf:f.Ok)(hnd:(f.env.cells.map (·.2)).Nodup)(O:ic S P)(hn:f.env.scope.names=sc)(hI:dX S f ih):dX S f (GA S f P sc ih):=
 ⟨Ms hS hf O hn hI,Lu hf hI,λt v m n h=>J3 hS hf hnd O hn hI t v m n h,Mu hS hf hI,Kp hI⟩
theorem H7:dX S f Nh:=⟨λz_ z_=>.no,λz_ z_=>.no,λz_ z_ z_ z_ z_=>.no,λz_ z_=>.no,λz_ z_=>.no⟩
theorem qD(hS:S.Ok)(hf:f.Ok)(hnd:(f.env.cells.map (·.2)).Nodup)(O:ic S P)(hn:f.env.scope.names=sc)(k:Nat):dX S f (oq S f P sc k):=by
 induction k with
 | zero=>exact H7
 | succ k ih=>exact DF hS hf hnd O hn ih
end
section
variable{S:Sx}{f:Fx}{n:Snap}{σ:St}
theorem m6{h h':b9}(k:∀ b o,h.get? b=some o→(∀ vs,o.data≠ .fields vs)→∃ sl,h'.get? b=some {o with slots:=sl}):∀ {l:List Env},h.FunFrames dS l→h'.FunFrames dS l:=by
 intro l
 induction l with
 | nil=>exact λz_=>trivial
 | cons env r ih=>exact λq=>A3 q λhk z hr=>E2_4 z λL o hf hn ho hd=>E1_1 (k L o ho hd) λsl e=>⟨hk,⟨L,_,hf,hn,e,hd⟩,ih hr⟩
theorem bu.but(hf:f.Ok)(rel:bu S f σ n)(bad:au→Prop)(hb:∀ a,bad a→n.X.own a=none∧n.X.G a=none∧∀ o,n.h.get? a=some o→∃ vs,o.data= .fields vs){h':b9}
  (kp:∀ b o,n.h.get? b=some o→¬bad b→(b ∉ f.cZ→h'.get? b=some o)∧(b ∈ f.cZ→∃ sl,h'.get? b=some {o with slots:=sl}))(lv:∀ b o,n.h.get? b=some o→∃ o',h'.get? b=some o'):bu S f σ ⟨n.X,h'⟩:=by
 have data:∀ b o,n.h.get? b=some o→(∀ vs,o.data≠ .fields vs)→∃ sl,h'.get? b=some {o with slots:=sl}:=λb o e hd=>by
  have nb:¬bad b:=λq=>by obtain⟨vs,z⟩:=(hb b q).2.2 o e;exact hd vs z
  by_cases hb:b ∈ f.cZ
  ·exact(kp b o e nb).2 hb
  ·exact⟨o.slots,(kp b o e nb).1 hb⟩
 have Ni:∀ a k,n.X.own a=some k→a ∉ f.cZ:=λa k e hf=>by
  have:=(rel.off a hf).1;rw[e] at this;exact Ag this
 have HJ:∀ a k,n.X.own a=some k→∀ o,n.h.get? a=some o→h'.get? a=some o:=λa k e o ho=>
  (kp a o ho (λq=>by rw[(hb a q).1] at e;exact bR e)).1 (Ni a k e)
 refine⟨⟨⟨rel.inv.P,rel.inv.base,λa o e=>?_,λk o e=>?_,λa k e=>?_⟩,rel.dom,λa ha=>?_,m6 data rel.frames⟩,?_,rel.kB,λc hc=>(rel.cells c hc).elim λo e=>lv c o e⟩
 ·have ho:=rel.inv.sub a o e
  exact(kp a o ho (λq=>by rw[(hb a q).2.1] at e;exact bR e)).1 (λq=>by rw[(rel.off a q).2.1] at e;exact bR e)
 ·refine A2 (rel.inv.foot k o e) λh1 h2=>?_
  exact⟨h1,h2.mono (.refl _) h1 λa ha=>⟨ha,λob e=>HJ a k ha ob e⟩⟩
 ·refine fO λzz=>?_
  obtain⟨h1,o,h2⟩:=rel.inv.off a k e
  refine zz ?_
  exact⟨h1,lv a o h2⟩
 ·refine fO λzz=>?_
  obtain⟨h1,h2,o,h3⟩:=rel.off a ha
  refine zz ?_
  exact⟨h1,h2,lv a o h3⟩
 ·refine E1_3 rel.locs λm hm h1 h2=>?_
  refine⟨m,?_,h1,λx hx=>?_⟩
  ·refine E3_3 hm λo es ep ho hd r=>?_
   obtain⟨sl,e⟩:=data _ _ ho (λvs q=>by rw[hd] at q;cases q)
   exact⟨_,es,ep,e,hd,r⟩
  ·refine fO λzz=>?_
   obtain⟨hk,c,a1,a2,a3,ob,a4,a5⟩:=h2 x hx
   obtain⟨sl,e⟩:=data _ _ a4 (λvs q=>by rw[a5] at q;cases q)
   refine zz ?_
   exact⟨hk,c,a1,a2,a3,_,e,a5⟩
end
section
variable{M:g6}{A:bC}{E:af→ah→Prop}{s:ah}{env:Env}{outer:List Env}{L e:au}{oe:Obj}{vs:Array af}
theorem lM{o:Obj}{vs:Array af}(hd:o.data= .fields vs)(g:Array af→Array af):o.mapFields g={o with data:=.fields (g vs)}:=by
 obtain⟨c,d,dt,sl⟩:=o;obtain rfl:dt= .fields vs:=hd;rfl
theorem EF(hfr:A.frames=some (env::outer))(hl:s.heap.FunFrames dS (env::outer))(hf:env.frame=some L)(he:s.heap.get? e=some oe)(hd:oe.data= .fields vs)(hsz:1<vs.size){head:af}{b:Bool}{Q:Unit→ah→Prop}
  (h:∀ h' T oT ts,(∀ c o,c≠e→s.heap.get? c=some o→(c ∉ (env::outer).filterMap (·.frame)→h'.get? c=some o)∧(c ∈ (env::outer).filterMap (·.frame)→∃ sl,h'.get? c=some {o with slots:=sl}))→
   s.heap.get? T=none→T≠e→h'.get? e=some {oe with data:=.fields (vs.setIfInBounds 1 (.ref T))}→h'.get? T=some oT→oT.data= .fields ts→ts[3]? =some (rawInt L)→Q () {s with heap:=h'}):
  wpAny M A (do let a ←frameOf env;let pl ←entryPlaceOf L b;let t ←EntryCells.newEntry head a .none (rawInt L) .none pl;setField (.ref e) 1 t) Q E s:=by
 have P0:e ∉ (env::outer).filterMap (·.frame):=λhm=>by
  obtain⟨_,o,ho,hnf⟩:=hl.mem hm
  rw[he] at ho;injection ho with ho;subst ho;exact hnf vs hd
 refine wpAny_bind (wpAny_frameOf_fun hfr hl hf λh₁ hs₁=>?_)
 refine wpAny_bind (wpAny_entryPlaceOf λpl hpl=>?_)
 unfold EntryCells.newEntry newFields
 refine wpAny_bind (wpAny_newObj_type ?_ (hpl.sizeOk5 _ _ _ _ _))
 have Jf:h₁.get? e=some oe:=(hs₁.2.1 e P0).trans he
 have Jg:=aq (h:=h₁) {cls:=.type "traceback",dict:=none,data:=.fields ([head,.ref L,.none,rawInt L,.none]++(if pl.isEmpty then aI 6 dH else pl)).toArray} Jf
 have My:h₁.objs.size≠e:=oG (bB Jf)
 have Mz:s.heap.get? h₁.objs.size=none:=by
  cases q:s.heap.get? h₁.objs.size with
  | none=>rfl
  | some o=>
   refine E1_1 (hs₁.2.2 _ o q) λsl z=>?_
   exact absurd (bB z) (Nat.lt_irrefl _)
 refine wpAny_setField Jg hd hsz (h _ h₁.objs.size _ _ (λc o hc ho=>?_) Mz My ?_ ((cg _ _ (eW My)).trans (aL h₁ rfl)) rfl ?_)
 ·have up:∀ o,h₁.get? c=some o→((h₁.push {cls:=.type "traceback",dict:=none,data:=.fields ([head,.ref L,.none,rawInt L,.none]++(if pl.isEmpty then aI 6 dH else pl)).toArray}).update e (gH (·.setIfInBounds 1 (fY h₁.objs.size)))).get? c=some o:=λo q=>by
   rw[cg _ _ (eW hc)];exact aq _ q
  refine⟨λhn=>up o ((hs₁.2.1 c hn).trans ho),λhm=>?_⟩
  refine E1_1 (hs₁.2.2 c o ho) λsl z=>?_
  exact⟨sl,up _ z⟩
 ·rw[dh _ Jg (nX (by rw[lM hd])),lM hd]
 ·rcases hpl with rfl | ⟨_,_,_,_,_,_,_,rfl⟩ <;> simp
theorem Nj(hfr:A.frames=some (env::outer))(hl:s.heap.FunFrames dS (env::outer))(hf:env.frame=some L)(he:s.heap.get? e=some oe)(hd:oe.data= .fields vs)
  (h1:vs[1]? =some .none∨∃ T oT ts fl,vs[1]? =some (.ref T)∧T≠e∧s.heap.get? T=some oT∧oT.data= .fields ts∧ts[3]? =some fl∧(fl= .none∨fl=rawInt L)){Q:Unit→ah→Prop}
  (h:∀ h' T oT ts vs',(∀ c o,c≠e→vs[1]? ≠some (.ref c)→s.heap.get? c=some o→(c ∉ (env::outer).filterMap (·.frame)→h'.get? c=some o)∧(c ∈ (env::outer).filterMap (·.frame)→∃ sl,h'.get? c=some {o with slots:=sl}))→
   (∀ c o,s.heap.get? c=some o→∃ o',h'.get? c=some o')→
   (s.heap.get? T=none∨vs[1]? =some (.ref T))→T≠e→h'.get? e=some {oe with data:=.fields vs'}→vs'[1]? =some (.ref T)→h'.get? T=some oT→oT.data= .fields ts→ts[3]? =some (rawInt L)→Q () {s with heap:=h'}):
  wpAny M A (noteFrame (.ref e) env) Q E s:=by
 have hsz:1<vs.size:=by
  rcases h1 with h1 | ⟨_,_,_,_,h1,_⟩ <;> exact(pe.mp h1).1
 have Cg:∀ {h0 h':b9},(∀ c o,c≠e→h0.get? c=some o→(c ∉ (env::outer).filterMap (·.frame)→h'.get? c=some o)∧(c ∈ (env::outer).filterMap (·.frame)→∃ sl,h'.get? c=some {o with slots:=sl}))→
   (∃ o,h'.get? e=some o)→∀ c o,h0.get? c=some o→∃ o',h'.get? c=some o':=λk ke c o ho=>by
  by_cases q:c=e
  ·rw[q];exact ke
  ·by_cases m:c ∈ (env::outer).filterMap (·.frame)
   ·obtain⟨sl,z⟩:=(k c o q ho).2 m;exact⟨_,z⟩
   ·exact⟨o,(k c o q ho).1 m⟩
 unfold noteFrame
 simp only[hf]
 rcases h1 with h1 | ⟨T,oT,ts,fl,h1,My,hT,MC,h3,hfl⟩
 ·refine wpAny_bind (wpAny_field he hd h1 ?_)
  rw[if_neg (by decide)]
  refine EF hfr hl hf he hd hsz λh' T oT ts k1 k2 k3 k4 k5 k6 k7=>h h' T oT ts _ (λc o a z_ b=>k1 c o a b) (Cg k1 ⟨_,k4⟩) (.inl k2) k3 k4 (by simp[hsz]) k5 k6 k7
 ·refine wpAny_bind (wpAny_field he hd h1 ?_)
  rw[if_pos (show(fY T != dH)=true from by simp)]
  refine wpAny_bind (wpAny_field hT MC h3 ?_)
  rcases hfl with rfl | rfl
  ·rw[if_neg (show¬((dH == rawInt L)=true) from by simp[rawInt])]
   refine wpAny_bind (wpAny_setField hT MC (pe.mp h3).1 ?_)
   have other:∀ c,c≠T→(s.heap.update T (gH (·.setIfInBounds 3 dH))).get? c=s.heap.get? c:=λc hc=>cg _ _ (eW hc)
   have lv:∀ c o,s.heap.get? c=some o→∃ o',(s.heap.update T (gH (·.setIfInBounds 3 dH))).get? c=some o':=λc o ho=>by
    by_cases q:c=T
    ·rw[q];exact⟨_,dh _ hT (nX (by rw[lM MC]))⟩
    ·exact⟨o,(other c q).trans ho⟩
   have nT:∀ b o,s.heap.get? b=some o→(∀ vs,o.data≠ .fields vs)→b≠T:=λb o hb hnf q=>by
    rw[q,hT] at hb;injection hb with hb;subst hb;exact hnf ts MC
   refine EF (s:={s with heap:=s.heap.update T (gH (·.setIfInBounds 3 dH))}) hfr (hl.of_keeps λb o hb hnf=>⟨o,(other b (nT b o hb hnf)).trans hb,rfl⟩) hf ((other e (eW My)).trans he) hd hsz
    λh' T' Tt ts' k1 k2 k3 k4 k5 k6 k7=>h h' T' Tt ts' _ (λc o a hn b=>k1 c o a ((other c λq=>hn (by rw[q];exact h1)).trans b)) (λc o ho=>?_) (.inl ?_) k3 k4 (by simp[hsz]) k5 k6 k7
   ·obtain⟨o',z⟩:=lv c o ho
    exact Cg k1 ⟨_,k4⟩ c o' z
   ·cases q:s.heap.get? T' with
    | none=>rfl
    | some o=>obtain⟨o',z⟩:=lv T' o q;rw[k2] at z;exact bR z
  ·rw[if_pos (show(rawInt L == rawInt L)=true from by simp)]
   refine wpAny_pure (h s.heap T oT ts vs (λc o z_ z_ ho=>⟨λz_=>ho,λz_=>⟨o.slots,ho⟩⟩) (λc o ho=>⟨o,ho⟩) (.inr h1) My ?_ h1 hT MC h3)
   obtain⟨c,d,dt,sl⟩:=oe;obtain rfl:dt= .fields vs:=hd;exact he
end
section
variable{S:Sx}{f:Fx}{n n':Snap}{σ:St}{told:List UInt8}{e:au}{own cl:List au}
theorem dB.turn{fr:List au}(ev:dB own fr cl n n'){h':b9}(kp:∀ b o,n'.h.get? b=some o→n.h.get? b≠none→(b ∉ fr→h'.get? b=some o)∧(b ∈ fr→∃ sl,h'.get? b=some {o with slots:=sl}))
  (lv:∀ b o,n'.h.get? b=some o→∃ o',h'.get? b=some o'):dB own fr cl n ⟨n'.X,h'⟩:=by
 refine⟨ev.le,λb o q h1 h2=>?_,λb o q=>(ev.live b o q).elim λo' z=>lv b o' z,ev.mW,ev.jt⟩
 have nn:n.h.get? b≠none:=λz=>by rw[z] at q;exact bR q
 refine A2 (ev.keep b o q h1 h2) λe1 e2=>?_
 refine⟨λhn=>(kp b o (e1 hn) nn).1 hn,λhm=>?_⟩
 refine E1_1 (e2 hm) λsl z=>?_
 exact(kp b _ z nn).2 hm
set_option tactic.hygienic true in
theorem xu(hf:f.Ok){L:au}(hL:f.env.frame=some L)(ho:∃ outer,f.fr=f.env::outer)(hoff:∀ a ∈ f.cZ,∃ o,n.h.get? a=some o)(ev:dB own f.cZ cl n n')(rel:bu S f σ n')(fl:eN (some L) told n.h e n')
  {E:af→ah→Prop}{Q:Unit→ah→Prop}{g d tk os}(h:∀ h',dB own f.cZ cl n ⟨n'.X,h'⟩→bu S f σ ⟨n'.X,h'⟩→BX L told n.h e ⟨n'.X,h'⟩→Q () ⟨h',g,d,tk,os⟩):
  wpAny (model S.prog S.w) f.A (noteFrame (.ref e) f.env) Q E ⟨n'.h,g,d,tk,os⟩:=by
 refine E1_1 ho λouter ho=>?_
 obtain⟨ne,be,bd,ge,c,od,da,gd,w⟩:=fl
 rename_i dd oe vs t u k
 have cZ:f.cZ=(f.env::outer).filterMap (·.frame):=congrArg (List.filterMap λx:Env=>x.frame) ho
 refine Nj (s:=⟨n'.h,g,d,tk,os⟩) (hf.room.frames.trans (congrArg some ho)) (ho▸rel.frames) hL ge da (w.imp_right λ⟨b1,b2,_,_,b3,b4,b5,b6⟩=>⟨_,_,_,_,b1,b2,b3,b4,b5,b6.imp_right λ⟨l,e1,e2⟩=>by cases e1;exact e2⟩) λh' T oT ts vs' k1 k2 k3 k4 k5 k6 k7 k8 k9=>?_
 have hbad:∀ a,(a=e∨vs[1]? =some (.ref a))→lR n.h n' a∧(∀ o,n'.h.get? a=some o→∃ vs,o.data= .fields vs)∧a≠dd:=by
  rintro a (rfl | ha)
  ·exact⟨be,λo q=>⟨_,aK (ge.symm.trans q)▸da⟩,ne⟩
  ·rcases w with w | ⟨b1,_,b2,b3,b4,b5,_⟩
   ·rw[w] at ha;cases ha
   ·rw[b1] at ha;cases ha
    exact⟨b3,λo q=>⟨_,aK (b4.symm.trans q)▸b5⟩,b2⟩
 have kp:∀ b o,n'.h.get? b=some o→¬(b=e∨vs[1]? =some (.ref b))→(b ∉ f.cZ→h'.get? b=some o)∧(b ∈ f.cZ→∃ sl,h'.get? b=some {o with slots:=sl}):=λb o q nb=>cZ▸k1 b o (λz=>nb (.inl z)) (λz=>nb (.inr z)) q
 have hT:lR n.h n' T∧T≠dd:=k3.elim (λk3=>⟨⟨dg ev.live k3,(aZ rel.inv k3).1,(aZ rel.inv k3).2⟩,λq=>nomatch (q▸gd).symm.trans k3⟩) λk3=>⟨(hbad T (.inr k3)).1,(hbad T (.inr k3)).2.2⟩
 refine h h' (ev.turn (λb o q nn=>kp b o q λz=>nn (hbad b z).1.new) k2) (bu.but hf rel (λa=>a=e∨vs[1]? =some (.ref a)) (λa ha=>⟨(hbad a ha).1.own,(hbad a ha).1.G,(hbad a ha).2.1⟩) kp k2)
  ⟨ne,⟨be.new,be.own,be.G⟩,⟨bd.new,bd.own,bd.G⟩,k5,c,od,rfl,(kp dd _ gd λz=>(hbad dd z).2.2 rfl).1 λm=>?_,⟨k6,k4,hT.2,⟨hT.1.new,hT.1.own,hT.1.G⟩,k7,k8,k9,rfl⟩⟩
 refine E1_1 (hoff dd m) λo z=>?_
 exact nomatch bd.new.symm.trans z
noncomputable def yI(w:Option au):af:=w.elim dH λf=>rawInt f
set_option tactic.hygienic true in
theorem w7(hf:f.Ok){F:af→Prop}(w:Option au)(ev:dB own f.cZ cl n n')(rel:bu S f σ n')(fl:f7 (Tb F n.h e n') told n.h e n')
  {A:bC}{E:af→ah→Prop}{Q:Unit→ah→Prop}{g d tk os}(h:∀ h',dB own f.cZ cl n ⟨n'.X,h'⟩→bu S f σ ⟨n'.X,h'⟩→f7 (Tb (λv=>v=yI w) n.h e ⟨n'.X,h'⟩) told n.h e ⟨n'.X,h'⟩→Q () ⟨h',g,d,tk,os⟩):
  wpAny (model S.prog S.w) A (setFlight (.ref e) w) Q E ⟨n'.h,g,d,tk,os⟩:=by
 refine fO λzz=>?_
 obtain⟨ne,be,bd,ge,c,od,da,gd,⟨b1,b2,Ra,b3,b4,b5,b6,hF⟩⟩:=fl
 refine zz ?_
 rename_i dd oe vs t u k T oT ts fl
 unfold setFlight
 refine wpAny_bind (wpAny_field ge da b1 ?_)
 rw[if_pos (show(fY T != dH)=true from bne_iff_ne.mpr nofun)]
 have Rb:=(pe.mp b6).1
 refine wpAny_setField b4 b5 Rb ?_
 show Q () ⟨n'.h.update T (gH (·.setIfInBounds 3 (yI w))),g,d,tk,os⟩
 have other:∀ {c o},c≠T→n'.h.get? c=some o→(n'.h.update T (gH (·.setIfInBounds 3 (yI w)))).get? c=some o:=λhc q=>(cg _ _ (eW hc)).trans q
 have self:=(dh (gH (·.setIfInBounds 3 (yI w))) b4 (nX (by rw[lM b5]))).trans (congrArg some (lM b5 _))
 have lv:∀ b o,n'.h.get? b=some o→∃ o',(n'.h.update T (gH (·.setIfInBounds 3 (yI w)))).get? b=some o':=λb o q=>by
  by_cases z:b=T
  ·rw[z];exact⟨_,self⟩
  ·exact⟨o,other z q⟩
 have kp:∀ b o,n'.h.get? b=some o→¬b=T→(b ∉ f.cZ→(n'.h.update T (gH (·.setIfInBounds 3 (yI w)))).get? b=some o)∧(b ∈ f.cZ→∃ sl,(n'.h.update T (gH (·.setIfInBounds 3 (yI w)))).get? b=some {o with slots:=sl}):=
  λb o q nb=>⟨λz_=>other nb q,λz_=>⟨o.slots,other nb q⟩⟩
 exact h _ (ev.turn (λb o q nn=>kp b o q λz=>nn (z▸b3.new)) lv) (bu.but hf rel (λa=>a=T) (λa ha=>by subst ha;exact⟨b3.own,b3.G,λo q=>⟨_,aK (b4.symm.trans q)▸b5⟩⟩) kp lv)
  ⟨ne,⟨be.new,be.own,be.G⟩,⟨bd.new,bd.own,bd.G⟩,other (eW b2) ge,c,od,da,other (eW Ra) gd,⟨b1,b2,Ra,⟨b3.new,b3.own,b3.G⟩,self,rfl,by rw[Array.getElem?_setIfInBounds_self_of_lt Rb],rfl⟩⟩
theorem EN{h0 h:b9}{X:Rc}(x:f7 (Tb (λv=>v=yI none) h0 e ⟨X,h⟩) told h0 e ⟨X,h⟩):eN none told h0 e ⟨X,h⟩:=x.map (λz_=>id) rfl λz_ z_ t=>.inr (t.map (λz_=>id) λz_ q=>.inl q)
end
inductive Src where
 | arg (i:Nat)
 | kw (i:Nat)
 | q8 (v:af) (p:PV)
noncomputable def rN{α:Type}(d:α)(l:List α):Nat→α:=bA (motive:=λz_=>Nat→α) (λz_=>d) (λv z_ q i=>Nat.casesOn i v q) l
noncomputable def Src.raw(vs:List af)(kvs:List (Str×af))(s:Src):af:=Src.casesOn s (λi=>rN .none vs i) (λi=>(rN (("":Str),.none) kvs i).2) (λv z_=>v)
noncomputable def Src.abs(args:List MV)(kw:List (Str×MV))(s:Src):MV:=Src.casesOn s (λi=>rN (.pv .none) args i) (λi=>(rN (("":Str),.pv .none) kw i).2) (λz_ p=>.pv p)
theorem H8{X:Rc}{vs ms}(h:bY X vs ms):∀ i,aW X (rN .none vs i) (rN (.pv .none) ms i):=bY.rec (motive_1:=λz_ z_ z_=>True) (motive_2:=λvs ms z_=>∀ i,aW X (rN .none vs i) (rN (.pv .none) ms i))
 (λz_=>trivial) (λz_=>trivial) (λz_ z_ z_=>trivial) (λz_=>.pv .none) (λh z_ z_ r i=>Nat.casesOn i h r) h
theorem FP{X:Rc}{vs ms}(h:dQ X vs ms):∀ i,aW X (rN (("":Str),.none) vs i).2 (rN (("":Str),.pv .none) ms i).2:=dQ.rec (motive:=λvs ms z_=>∀ i,aW X (rN (("":Str),.none) vs i).2 (rN (("":Str),.pv .none) ms i).2) (λz_=>.pv .none) (λh z_ r i=>Nat.casesOn i h r) h
theorem dQ.names{X:Rc}{vs ms}(h:dQ X vs ms):vs.map (·.1)=ms.map (·.1):=dQ.rec (motive:=λvs ms z_=>vs.map (·.1)=ms.map (·.1)) rfl (λz_ z_ r=>congrArg (_:: ·) r) h
noncomputable abbrev Ea(args:List MV)(kw:List (Str×MV))(cS:List (Str×Src)):List (Str×MV):=cS.map λp=>(p.1,p.2.abs args kw)
noncomputable abbrev qN(vs:List af)(kvs:List (Str×af))(cS:List (Str×Src)):List (Str×af):=cS.map λp=>(p.1,p.2.raw vs kvs)
noncomputable def u6(names:List (Str×aE))(cS:List (Str×Src)):List Str:=bA (motive:=λz_=>List Str) [] (λp z_ q=>fF (motive:=λz_=>List Str) p.2 q (aF (lk cS p.1) (λz_=>q) (p.1::q)) q q q) names
structure D6(S:Sx)(a:au)(fd:eX)(body:List dO):Prop where
 at_:∃ o,S.K.lookup a=some o∧o.data= .func fd
 body:fd.body= .stmts body
 closure:fd.closure=[]
 kind:fd.scope.kind= .function
 co:fd.scope.isCoroutine=false
 gen:fd.scope.isGenerator=false
 globals:fd.globals=mainGlobals
 builtins:fd.builtins=builtinsNs
 code:S.h₀.CodeRec fd.code fd.qualname
 lim:S.h₀.NoLimit
structure Shape(S:Sx)(fd:eX)(np:Nat)(uC:List Str)(cS:List (Str×Src)):Prop where
 bind:∀ vs kvs,vs.length=np→kvs.map (·.1)=uC→∀ St,peek S.K St (bindArgs fd ⟨vs,kvs⟩)=some (qN vs kvs cS)
 q8:∀ x v p,(x,Src.q8 v p) ∈ cS→∀ P G,cy P G v p
 kind:∀ p ∈ cS,lk fd.scope.names p.1=some .local∨lk fd.scope.names p.1=some .cell
 nodup:(cS.map (·.1)).Nodup
 un:∀ x ∈ u6 fd.scope.names cS,lk fd.scope.names x=some .cell
 names:(fd.scope.names.map (·.1)).Nodup
structure BS(S:Sx)(f:Fx)(a:au)(fd:eX)(l:Nat):Prop where
 ok:f.Ok
 nodup:(f.env.cells.map (·.2)).Nodup
 scope:f.env.scope=fd.scope
 lv:f.lv=l-1
 own:∃ outer,f.fr=f.env::outer
 frame:f.env.frame=some f.env.locals
 func:f.env.func=some a
 code:f.env.code=fd.code
 qual:f.env.qual=fd.qualname++".<locals>."
 hand:f.A.handled=none
theorem oW{α:Type}{l:List (Str×α)}{x:Str}{v:α}(h:lk l x=some v):(x,v) ∈ l:=mem_of_lookup (by rw[←jY];exact h)
theorem oQ(names:List (Str×aE)):∀ (k:Nat) (acc:List (Str×au)) (x:Str),((x,o_) ∈ names∨(acc.lookup x).isSome=true)→((cellsFrom k names acc).lookup x).isSome=true:=by
 induction names with
 | nil=>exact λk acc x h=>h.resolve_left λq=>jd q
 | cons p r ih=>
  obtain⟨y,kind⟩:=p
  intro k acc x h
  unfold cellsFrom
  by_cases hk:(kind == o_)=true
  ·rw[if_pos hk]
   refine ih _ _ x ?_
   rw[mz]
   cases q:x == y with
   | true=>exact .inr rfl
   | false=>exact h.imp_left λh=>(ay.mp h).resolve_left λe=>by cases e;rw[beq_self_eq_true] at q;cases q
  ·rw[if_neg hk]
   exact ih _ _ x (h.imp_left λh=>(ay.mp h).resolve_left λe=>by cases e;exact hk rfl)
theorem yu(names:List (Str×aE)):∀ (k:Nat) (acc:List (Str×au)),(cellsFrom k names acc).map (·.1)=((names.filter λp=>p.2 == o_).map (·.1)).reverse++acc.map (·.1):=by
 induction names with
 | nil=>exact λz_ z_=>rfl
 | cons p r ih=>
  obtain⟨y,kind⟩:=p
  intro k acc
  unfold cellsFrom
  rw[List.filter_cons]
  by_cases hk:(kind == o_)=true
  ·rw[if_pos hk,if_pos hk,ih,cG,cG,cO,c_];rfl
  ·rw[if_neg hk,if_neg hk,ih]
theorem jN{α:Type}{l:List (Str×α)}{x:Str}{v:α}(nd:(l.map (·.1)).Nodup)(h:(x,v) ∈ l):l.lookup x=some v:=by
 induction l with
 | nil=>exact jd h
 | cons p r ih=>
  rw[cG,bK] at nd
  rw[mz]
  rcases ay.mp h with e | h
  ·cases e;rw[beq_self_eq_true]
  ·rw[beq_eq_false_iff_ne.mpr λq=>nd.1 (cJ.mpr ⟨_,h,q⟩)];exact ih nd.2 h
section
variable{kindOf:Str→Option aE}{bs:List (Str×af)}{x:Str}{v:af}
theorem Av:∀ {m:Str→Option af},x ∉ bs.map (·.1)→bindL kindOf bs m x=m x:=by
 induction bs with
 | nil=>exact λz_=>rfl
 | cons p r ih=>
  intro m h
  unfold bindL
  rw[ih (λq=>h (.tail _ q))]
  split
  ·exact if_neg λ(q:x=p.1)=>h (q▸ .head _)
  ·rfl
theorem CV(hk:kindOf x=some .local):∀ {m:Str→Option af},(bs.map (·.1)).Nodup→(x,v) ∈ bs→bindL kindOf bs m x=some v:=by
 induction bs with
 | nil=>exact λz_ h=>jd h
 | cons p r ih=>
  intro m nd h
  rw[cG,bK] at nd
  unfold bindL
  rcases ay.mp h with e | h
  ·cases e;rw[Av nd.1,if_pos hk];exact if_pos rfl
  ·exact ih nd.2 h
theorem sV:∀ {m:Str→Option af},x ∉ bs.map (·.1)→bindC kindOf bs m x=m x:=by
 induction bs with
 | nil=>exact λz_=>rfl
 | cons p r ih=>
  intro m h
  unfold bindC
  rw[ih (λq=>h (.tail _ q))]
  split
  ·rfl
  ·exact if_neg λ(q:x=p.1)=>h (q▸ .head _)
theorem CU(hk:kindOf x≠some .local):∀ {m:Str→Option af},(bs.map (·.1)).Nodup→(x,v) ∈ bs→bindC kindOf bs m x=some v:=by
 induction bs with
 | nil=>exact λz_ h=>jd h
 | cons p r ih=>
  intro m nd h
  rw[cG,bK] at nd
  unfold bindC
  rcases ay.mp h with e | h
  ·cases e;rw[sV nd.1,if_neg hk];exact if_pos rfl
  ·exact ih nd.2 h
end
theorem Lw{names:List (Str×aE)}{cS:List (Str×Src)}{x:Str}(h:x ∈ u6 names cS):lk cS x=none:=by
 induction names with
 | nil=>exact jd h
 | cons p r ih=>
  obtain⟨y,k⟩:=p
  cases k with
  | cell=>
   have h:x ∈ aF (lk cS y) (λz_=>u6 r cS) (y::u6 r cS):=h
   cases q:lk cS y with
   | some _=>rw[q] at h;exact ih h
   | none=>rw[q] at h;exact(ay.mp h).elim (λe=>e▸q) ih
  | _=>exact ih h
theorem HO{α:Type}{l:List (Str×α)}{x:Str}(h:lk l x=none):x ∉ l.map (·.1):=by
 induction l with
 | nil=>exact λh=>jd h
 | cons p r ih=>
  have h:cond (bT p.1 x) (some p.2) (lk r x)=none:=h
  cases hb:bT p.1 x with
  | true=>rw[hb] at h;exact Ag h
  | false=>
   rw[hb] at h
   exact λe=>(ay.mp e).elim (λe=>iE hb e.symm) (ih h)
theorem KV{α β:Type}{g:α→β}{l:List (Str×α)}{x:Str}{v:β}(h:lk (l.map λp=>(p.1,g p.2)) x=some v):∃ w,(x,w) ∈ l∧v=g w:=by
 have:=oW h
 refine E1_2 (cJ.mp this) λGS h1 h2=>?_
 obtain⟨y,w⟩:=GS
 cases h2;exact⟨w,h1,rfl⟩
section
variable{S:Sx}{A:bC}{fr:List Env}{F:br}{n:Snap}{a:au}{fd:eX}{body:List dO}{np:Nat}{uC:List Str}{cS:List (Str×Src)}{l:Nat}
noncomputable abbrev Rc.more(X:Rc)(p:au→Bool)(h:b9):Rc:={X with G:=λc=>cond (p c) (h.get? c) (X.G c)}
theorem kW{X:Rc}{p:au→Bool}{h:b9}{c:au}(e:¬p c=true):(X.more p h).G c=X.G c:=by show cond (p c) _ _=_;rw[Bool.eq_false_iff.mpr e];rfl
theorem zc{X:Rc}{p:au→Bool}{h:b9}{c:au}(e:p c=true):(X.more p h).G c=h.get? c:=by show cond (p c) _ _=_;rw[e];rfl
theorem enter(HF:D6 S a fd body)(sh:Shape S fd np uC cS)(cr:CRel S fr F (F.map (·.1)) n)(room:CO A fr l)(hl:1≤l)(hh:A.handled=none)
  {vs:List af}{kvs:List (Str×af)}{args:List MV}{kw:List (Str×MV)}(hvs:bY n.X vs args)(hkv:dQ n.X kvs kw)
  {g d tk os}{env:Env}{s₁:ah}(he:env=newEnv fd.scope n.h.objs.size fd.globals (cellsFrom (n.h.objs.size+1) fd.scope.names []) (fd.qualname++".<locals>.") (some a) fd.code none fd.builtins)
  (x:InCallC ⟨n.h,g,d,tk,os⟩ env.locals (bindL env.kindOf (qN vs kvs cS) λz_=>none) env.cells (bindC env.kindOf (qN vs kvs cS) λz_=>none) s₁):
  BS S ⟨A.deeper env,env,env::fr,l-1⟩ a fd l∧∃ mC:Rc,bu S ⟨A.deeper env,env,env::fr,l-1⟩ ⟨Ea args kw cS,F,F.map (·.1),u6 fd.scope.names cS⟩ ⟨mC,s₁.heap⟩∧
   n.X.le mC∧mC.own=n.X.own∧mC.dom=n.X.dom∧(∀ b o,mC.G b=some o→n.X.G b=some o∨n.h.get? b=none):=by
 have eL:env.locals=n.h.objs.size:=by rw[he];rfl
 have eC:env.cells=cellsFrom (n.h.objs.size+1) fd.scope.names []:=by rw[he];rfl
 have eS:env.scope=fd.scope:=by rw[he];rfl
 have eF:env.frame=some env.locals:=by rw[he];rfl
 have kp:=x.toInCall.keep
 have fresh:∀ c ∈ env.cells.map (·.2),n.h.get? c=none∧c≠env.locals:=λc hc=>by
  refine E1_2 (cJ.mp hc) λGU h1 eV=>?_
  subst eV
  obtain⟨y,c'⟩:=GU
  have:=x.above _ _ h1
  rw[eL] at this
  refine⟨?_,λq=>by rw[show c'=env.locals from q,eL] at this;exact Nat.lt_irrefl _ this⟩
  cases q:n.h.get? c' with
  | none=>rfl
  | some o=>exact absurd (bB q) (kI.mpr (eB this))
 have nL:n.h.get? env.locals=none:=by rw[eL];exact bJ _
 have KS:∀ b ∈ fr.filterMap (·.frame),∃ o,n.h.get? b=some o:=λb hb=>(cr.off b hb).2.2
 have hkind:∀ y,env.kindOf y=lk fd.scope.names y:=λy=>by rw[jY, ←eS];rfl
 have Tq:(env.cells.map (·.2)).Nodup:=by
  rw[pA,List.pairwise_map]
  exact x.apart
 have JC:(⟨A.deeper env,env,env::fr,l-1⟩:Fx).Ok:=by
  refine fO λzz=>?_
  obtain⟨r1,r2,r3⟩:=room
  refine zz ?_
  refine⟨⟨?_,?_,?_⟩,by show env.scope.kind=_;rw[eS];exact HF.kind,by show env.globals=_;rw[he];exact HF.globals,by show env.builtins=_;rw[he];exact HF.builtins,λb hb hc=>?_,⟨env,fr,rfl,rfl,by rw[eF];rfl⟩,λz_=>hh⟩
  ·show A.frames.map _=_;rw[r1];rfl
  ·show A.depth+1+3*(l-1)≤880;exact Rm hl r2 (by decide)
  ·show A.units+3+24*(l-1)≤9600;exact Rm hl r3 (by decide)
  ·refine A2 (fresh b hc) λf1 f2=>?_
   rcases ay.mp hb with e | hb
   ·exact f2 e
   ·have hb:b ∈ (env::fr).filterMap (·.frame):=hb
    rw[eK,eF] at hb
    rcases ay.mp hb with e | hb
    ·exact f2 e
    ·obtain⟨o,z⟩:=KS b hb;rw[f1] at z;exact bR z
 refine⟨⟨JC,Tq,eS,rfl,⟨fr,rfl⟩,eF,by rw[he];rfl,by rw[he];rfl,by rw[he];rfl,hh⟩,?_⟩
 let full:au→Bool:=λc=>cS.any λp=>decide (env.cells.lookup p.1=some c)
 have ET:∀ c,full c=true→c ∈ env.cells.map (·.2):=λc hc=>by
  refine E1_2 (dG.mp hc) λp z_ hp=>?_
  exact cJ.mpr ⟨_,mem_of_lookup (of_decide_eq_true hp),rfl⟩
 let mC:Rc:=n.X.more full s₁.heap
 have old:∀ {b o},n.h.get? b=some o→¬full b=true:=λe q=>nomatch (fresh _ (ET _ q)).1.symm.trans e
 have RE:¬full env.locals=true:=λq=>(fresh _ (ET _ q)).2 rfl
 have G1:∀ b o,n.X.G b=some o→mC.G b=some o:=λb o e=>(kW (old (cr.inv.sub b o e))).trans e
 have le:n.X.le mC:=⟨rfl,G1,λz_ h=>h,λz_ z_=>rfl⟩
 have jt:∀ b o,mC.G b=some o→n.X.G b=some o∨n.h.get? b=none:=λb o e=>by
  by_cases q:full b=true
  ·exact .inr (fresh b (ET b q)).1
  ·exact .inl ((kW q).symm.trans e)
 have qL:∀ b,n.h.get? b=none→n.X.own b=none∧n.X.G b=none:=λb h=>aZ cr.inv h
 refine⟨mC,⟨⟨⟨cr.inv.P,λb o e=>G1 b o (cr.inv.base b o e),λb o e=>?_,λk o e=>?_,λb k e=>?_⟩,cr.dom,λb hb=>?_,?_⟩,?_,?_,λc hc=>?_⟩,le,rfl,rfl,jt⟩
 ·by_cases q:full b=true
  ·exact(zc q).symm.trans e
  ·exact kp b o (cr.inv.sub b o ((kW q).symm.trans e))
 ·refine A2 (cr.inv.foot k o e) λh1 h2=>?_
  exact⟨h1,h2.mono le h1 λb hb=>⟨hb,λob e=>kp b ob e⟩⟩
 ·refine fO λzz=>?_
  obtain⟨h1,o,h2⟩:=cr.inv.off b k e
  refine zz ?_
  exact⟨(kW (old h2)).trans h1,o,kp b o h2⟩
 ·have hb:b ∈ (env::fr).filterMap (·.frame):=hb
  rw[eK,eF] at hb
  rcases ay.mp hb with e | hb
  ·subst e
   exact⟨(qL _ nL).1,(kW RE).trans (qL _ nL).2,Ns.live x.toInCall.ns⟩
  ·refine fO λzz=>?_
   obtain⟨h1,h2,o,h3⟩:=cr.off b hb
   refine zz ?_
   exact⟨h1,(kW (old h3)).trans h2,o,kp b o h3⟩
 ·refine⟨?_,?_,?_⟩
  ·rw[eS,HF.kind];decide
  ·refine E3_3 x.toInCall.ns λo es ep ho hd z_=>?_
   refine⟨env.locals,o,eF,?_,ho,λvs q=>by rw[hd] at q;cases q⟩
   cases q:dS.get? env.locals with
   | none=>rfl
   | some o=>exact absurd (bB q) (Nat.not_lt_zero _)
  ·exact m6 (λb o e z_=>⟨o.slots,kp b o e⟩) cr.frames
 ·have nb:(qN vs kvs cS).map (·.1)=cS.map (·.1):=uG
  refine⟨_,x.toInCall.ns,λy mv e=>?_,λy hy=>?_⟩
  ·refine E1_2 (KV (g:=λs=>Src.abs args kw s) e) λw hw eV=>?_
   subst eV
   refine⟨w.raw vs kvs,?_,?_⟩
   ·refine aW.mono (X:=n.X) le ?_
    cases w with
    | arg i=>exact H8 hvs i
    | kw i=>exact FP hkv i
    | q8 v p=>exact .pv (sh.q8 _ _ _ hw _ _)
   ·have hin:(y,w.raw vs kvs) ∈ qN vs kvs cS:=cJ.mpr ⟨_,hw,rfl⟩
    show match env.kindOf y with | some .local=>_ | some .cell | some .free=>_ | _=>False
    rcases sh.kind _ hw with hk | hk
    ·rw[hkind,hk]
     exact CV (by rw[hkind,hk]) (by rw[nb];exact sh.nodup) hin
    ·rw[hkind,hk]
     have hs:=oQ fd.scope.names (n.h.objs.size+1) [] y (.inl (oW hk))
     rw[←eC] at hs
     refine E1_1 (fB.mp hs) λc hc=>?_
     refine E1_2 (x.cell y c hc) λo ho hd=>?_
     rw[CU (by rw[hkind,hk];nofun) (by rw[nb];exact sh.nodup) hin] at hd
     exact⟨c,o,hc,(zc (dG.mpr ⟨_,hw,decide_eq_true hc⟩)).trans ho,hd⟩
  ·have hk:=sh.un y hy
   have hs:=oQ fd.scope.names (n.h.objs.size+1) [] y (.inl (oW hk))
   rw[←eC] at hs
   refine E1_1 (fB.mp hs) λc hc=>?_
   refine E1_2 (x.cell y c hc) λo ho hd=>?_
   have hm:=mem_of_lookup hc
   have hcf:=fresh c (cJ.mpr ⟨_,hm,rfl⟩)
   have miss:=HO (Lw hy)
   rw[sV (by rw[nb];exact miss)] at hd
   refine⟨by rw[hkind];exact hk,c,hc,(qL c hcf.1).1,(kW λq=>?_).trans (qL c hcf.1).2,o,ho,hd⟩
   refine E1_2 (dG.mp q) λp hp1 hp2=>?_
   have:=name_of_addr x.apart hm (mem_of_lookup (of_decide_eq_true hp2))
   exact miss (cJ.mpr ⟨p,hp1,this.symm⟩)
 ·exact⟨(qL _ nL).1,(kW RE).trans (qL _ nL).2⟩
 ·refine E1_2 (cJ.mp hc) λLA h1 eV=>?_
  subst eV
  obtain⟨y,c'⟩:=LA
  have h1:(y,c') ∈ env.cells:=h1
  have nd:(env.cells.map (·.1)).Nodup:=by
   rw[eC,yu,List.map_nil,dw]
   exact(List.reverse_perm _).nodup_iff.mpr (sh.names.sublist (List.filter_sublist.map _))
  refine E1_2 (x.cell y c' (jN nd h1)) λo ho z_=>?_
  exact⟨o,ho⟩
end
noncomputable def DI(l ms:List Nat):Bool:=bA (motive:=λz_=>Bool) true (λn z_ q=>cond (bL n ms) q false) l
theorem uh{ns ms:List Nat}(e:DI ns ms=true):∀ k ∈ ns,k ∈ ms:=by
 induction ns with
 | nil=>exact λk h=>jd h
 | cons n r ih=>exact gP.mpr ⟨iI (fQ e).1,ih (fQ e).2⟩
noncomputable def Ie(fl:cj):MV:=cj.casesOn fl (.pv .none) (.pv .none) (.pv .none) (λv=>v)
noncomputable def QA(r:Res cj):Res MV:=Res.casesOn r (λfl=>.ok (Ie fl)) (λt=>.exc t)
noncomputable def JK(ns:List Nat)(r:Res cj):Bool:=Res.casesOn r (λfl=>kh ns (Ie fl)) (λz_=>true)
noncomputable def JD(F:br)(r:Res cj)(F':br):Bool:=cond (DI (F.map (·.1)) (F'.map (·.1))) (cond (ig (F'.map (·.1)) F') (JK (F'.map (·.1)) r) false) false
noncomputable def Dt(F:br)(Q:Res MV→br→Prop)(r:Res cj)(σ:St):Prop:=rK (JD F r σ.foot) (Q (QA r) σ.foot) False
theorem nj{F F':br}{r:Res cj}(h:JD F r F'=true):(∀ k ∈ F.map (·.1),k ∈ F'.map (·.1))∧ig (F'.map (·.1)) F'=true∧JK (F'.map (·.1)) r=true:=
 ⟨uh (fQ h).1,(fQ (fQ h).2).1,(fQ (fQ h).2).2⟩
section
variable{S:Sx}{A:bC}{fr:List Env}{F:br}{n:Snap}{a:au}{fd:eX}{body:List dO}{np:Nat}{uC:List Str}{cS:List (Str×Src)}{l:Nat}
theorem B9{env:Env}{lv:Nat}{mC:Rc}{h₁:b9}{n₂:Snap}{σ:St}(cr:CRel S fr F (F.map (·.1)) n)(fL:env.frame=some env.locals)(nL:n.h.get? env.locals=none)(nC:∀ c ∈ env.cells.map (·.2),n.h.get? c=none∨∃ o,n.X.G c=some o)
  (kp:∀ b o,n.h.get? b=some o→h₁.get? b=some o)(le:n.X.le mC)(ow:mC.own=n.X.own)(jt:∀ b o,mC.G b=some o→n.X.G b=some o∨n.h.get? b=none)
  (ev:dB (Fx.own ⟨A.deeper env,env,env::fr,lv⟩) (Fx.cZ ⟨A.deeper env,env,env::fr,lv⟩) (Fx.cl ⟨A.deeper env,env,env::fr,lv⟩) ⟨mC,h₁⟩ n₂)(rel:bu S ⟨A.deeper env,env,env::fr,lv⟩ σ n₂)
  (hs:∀ k ∈ F.map (·.1),k ∈ σ.foot.map (·.1))(hi:ig (σ.foot.map (·.1)) σ.foot=true):
  dB [] (fr.filterMap (·.frame)) [] n ⟨{n₂.X with dom:=σ.foot.map (·.1)},n₂.h⟩∧CRel S fr σ.foot (σ.foot.map (·.1)) ⟨{n₂.X with dom:=σ.foot.map (·.1)},n₂.h⟩:=by
 have vG:∀ b o,n.h.get? b=some o→∃ o',h₁.get? b=some o':=λb o e=>⟨o,kp b o e⟩
 have frs:∀ b,b ∈ (env::fr).filterMap (·.frame) ↔ b=env.locals∨b ∈ fr.filterMap (·.frame):=λb=>by rw[eK,fL];exact ay
 refine⟨⟨⟨ev.le.P.trans le.P,λb o e=>ev.le.G b o (le.G b o e),λk hk=>hs k (by rw[←cr.dom];exact hk),λk hk=>(ev.le.θ k (le.dom k hk)).trans (le.θ k hk)⟩,λb o e h1 z_=>?_,λb o e=>ev.live b o (kp b o e),λb k e=>?_,λb o e=>?_⟩,
  ⟨⟨rel.inv.P,rel.inv.base,rel.inv.sub,λk o e=>?_,rel.inv.off⟩,rfl,λb hb=>rel.off b (by show b ∈ (env::fr).filterMap (·.frame);rw[frs];exact .inr hb),rel.frames.2.2⟩⟩
 ·have RC:b≠env.locals:=λq=>by rw[q,nL] at e;exact bR e
  by_cases hc:b ∈ env.cells.map (·.2)
  ·rcases nC b hc with z | ⟨o',z⟩
   ·rw[z] at e;exact bR e
   ·have e':=cr.inv.sub b o' z
    rw[e] at e';cases e'
    exact⟨λz_=>rel.inv.sub b o (ev.le.G b o (le.G b o z)),λhb=>by have:=(cr.off b hb).2.1;rw[z] at this;exact Ag this⟩
  have nb:b ∉ Fx.own ⟨A.deeper env,env,env::fr,lv⟩:=λq=>(ay.mp q).elim RC hc
  obtain⟨k1,k2⟩:=ev.keep b o (kp b o e) (by show mC.own b=none;rw[ow];exact h1) nb
  refine⟨λhb=>k1 λq=>?_,λhb=>k2 ?_⟩
  ·have q:b ∈ (env::fr).filterMap (·.frame):=q
   rcases(frs b).mp q with q | q
   ·exact RC q
   ·exact hb q
  ·show b ∈ (env::fr).filterMap (·.frame)
   exact(frs b).mpr (.inr hb)
 ·rcases ev.mW b k e with ⟨k',z⟩ | z
  ·exact .inl ⟨k',by rw[←ow];exact z⟩
  ·exact .inr (dg vG z)
 ·rcases ev.jt b o e with z | ⟨k',z⟩ | z | z
  ·exact(jt b o z).imp id λz=>.inr (.inl z)
  ·exact .inr (.inl ⟨k',by rw[←ow];exact z⟩)
  ·exact .inr (.inr (.inl (dg vG z)))
  ·rcases nC b z with q | ⟨o',q⟩
   ·exact .inr (.inr (.inl q))
   ·have:=ev.le.G b o' (le.G b o' q)
    rw[e] at this;cases this
    exact .inl q
 ·have hk:=(mQ e).2
  exact⟨hk,gQ.part (X:=n₂.X) (X':={n₂.X with dom:=σ.foot.map (·.1)}) (ns:=σ.foot.map (·.1)) ⟨rfl,λz_ z_ e=>e,λz_ h=>h,λz_ z_=>rfl⟩ hk (λz_ h=>h) (rel.inv.foot k o e).2 (lV hi e)⟩
theorem leave_{f:Fx}{n n':Snap}{σ:St}{told:List UInt8}{e:au}{own cl:List au}(hf:f.Ok){L:au}(hL:f.env.frame=some L)(ho:∃ outer,f.fr=f.env::outer)(hoff:∀ a ∈ f.cZ,∃ o,n.h.get? a=some o)(ev:dB own f.cZ cl n n')(rel:bu S f σ n')(fl:eN (some L) told n.h e n')
  {E:af→ah→Prop}{Q:Unit→ah→Prop}{g d tk os}(h:∀ h',dB own f.cZ cl n ⟨n'.X,h'⟩→bu S f σ ⟨n'.X,h'⟩→eN none told n.h e ⟨n'.X,h'⟩→Q () ⟨h',g,d,tk,os⟩):
  wpAny (model S.prog S.w) f.A (leaving f.env (.ref e)) Q E ⟨n'.h,g,d,tk,os⟩:=by
 unfold leaving
 exact wpAny_bind (xu hf hL ho hoff ev rel fl λh' ev' rel' nt=>w7 hf none ev' rel' nt λh2 iw kK f2=>h h2 iw kK (EN f2))
theorem B4{P:Pg}(hS:S.Ok)(O:ic S P)(HF:D6 S a fd body)(sh:Shape S fd np uC cS)(hl:1≤l){args:List MV}{kw:List (Str×MV)}(hnp:args.length=np)(hkw:kw.map (·.1)=uC){Q:Res MV→br→Prop}
  (hbody:∀ f:Fx,BS S f a fd l→∀ n,bu S f ⟨Ea args kw cS,F,F.map (·.1),u6 fd.scope.names cS⟩ n→At S f (WP S f (execs body f.env)) dc (Dt F Q) n):
  ao S l (.pv (.sv (.ref a))) args kw F Q:=by
 refine⟨λA fr n v vs kvs g d tk os R' room hh cr hv hvs hkv P'=>?_⟩
 cases nU hv with
 | sv=>
 have kb:∀ b o,S.h₀.get? b=some o→n.h.get? b=some o:=λb o e=>cr.inv.sub b o (cr.inv.base b o e)
 have XK:=hS.X.keeps kb
 refine E1_2 HF.at_ λo ho hd=>?_
 have hbind:=λSt=>sh.bind vs kvs (by rw[hvs.length];exact hnp) (by rw[hkv.names];exact hkw) St
 refine jr (s:=⟨n.h,g,d,tk,os⟩) (by have:=room.depth;show A.depth<1000;exact aY (aa (aT _ _) this) (by decide)) (XK _ _ ho) hd HF.co HF.gen HF.body (HF.code.keeps kb) ?_
 refine fR (Looks.of_peek XK (hbind _)) ?_
 rw[HF.closure]
 refine bS (wpAny_newFunctionEnv_cells HF.kind (λp hp=>?_) λenv he s₁ x=>?_)
 ·refine E1_2 (cJ.mp hp) λq hq eV=>?_
  subst eV
  rw[←jY]
  rcases sh.kind _ hq with h | h
  ·exact .inl h
  ·exact .inr ⟨h,oQ _ _ _ _ (.inl (oW h))⟩
 refine fO λzz=>?_
 obtain⟨en,mC,i8,le,ow,dm,jt⟩:=enter HF sh cr room hl hh hvs hkv he x
 refine zz ?_
 have kp:=x.toInCall.keep
 refine⟨HF.lim.keeps λb o e=>kp b o (kb b o e),xr ?_⟩
 refine E2_2 x.done λUi tk' es z_=>?_
 have at_:=hbody _ en ⟨mC,s₁.heap⟩ i8
 have eL:env.locals=n.h.objs.size:=by rw[he];rfl
 have nL:n.h.get? env.locals=none:=by rw[eL];exact bJ _
 have nC:∀ c ∈ env.cells.map (·.2),n.h.get? c=none:=λc hc=>by
  refine E1_2 (cJ.mp hc) λGU h1 eV=>?_
  subst eV
  obtain⟨y,c'⟩:=GU
  have:=x.above _ _ h1
  rw[eL] at this
  cases q:n.h.get? c' with
  | none=>rfl
  | some o=>exact absurd (bB q) (kI.mpr (eB this))
 have vG:∀ b o,n.h.get? b=some o→∃ o',s₁.heap.get? b=some o':=λb o e=>⟨o,kp b o e⟩
 have e1:s₁=⟨s₁.heap,g,d,tk',os⟩:=by rw[es]
 rw[e1]
 refine at_ g d tk' os _ _ λn₂ tk₂ σ₂ ev gV=>⟨λfl hq GV hfl=>?_,λt hq e ER=>?_⟩
 ·refine A2 (h_ hq) λok hq=>?_
  refine A3 (nj ok) λh1 h2 h3=>?_
  refine A2 (B9 cr en.frame nL (λc hc=>.inl (nC c hc)) kp le ow jt ev gV h1 h2) λpM Ey=>?_
  refine(P' _ tk₂ σ₂.foot pM Ey).1 (Ie fl) hq _ ?_
  have key:∀ {v m},aW n₂.X v m→kh (σ₂.foot.map (·.1)) m=true→aW {n₂.X with dom:=σ₂.foot.map (·.1)} v m:=λhv hm=>
   aW.part (X:=n₂.X) (X':={n₂.X with dom:=σ₂.foot.map (·.1)}) ⟨rfl,λz_ z_ e=>e,λz_ h=>h,λz_ z_=>rfl⟩ hv hm
  cases hfl with
  | next=>exact .pv .none
  | cont=>exact .pv .none
  | brk=>exact .pv .none
  | ret hv=>exact key hv h3
 ·refine A2 (h_ hq) λok hq=>?_
  refine A3 (nj ok) λh1 h2 z_=>?_
  have hoff:∀ b ∈ Fx.cZ ⟨A.deeper env,env,env::fr,l-1⟩,∃ o,s₁.heap.get? b=some o:=λb hb=>(i8.off b hb).2.2
  have PK:eN (some env.locals) t s₁.heap e n₂:=by
   have:=ER
   unfold Fx.L at this
   rw[show(Fx.env ⟨A.deeper env,env,env::fr,l-1⟩).frame=some env.locals from en.frame] at this
   exact this
  refine bS (leave_ en.ok en.frame ⟨fr,rfl⟩ hoff ev gV PK λh' ev' rel' nf=>?_)
  refine A2 (B9 cr en.frame nL (λc hc=>.inl (nC c hc)) kp le ow jt ev' rel' h1 h2) λpM Ey=>?_
  refine(P' _ tk₂ σ₂.foot pM Ey).2 t hq e ?_
  have hb:∀ a,lR n.h ⟨n₂.X,h'⟩ a→lR n.h ⟨{n₂.X with dom:=σ₂.foot.map (·.1)},h'⟩ a:=λa b=>⟨b.new,b.own,b.G⟩
  exact f7.map (nf.older vG) hb rfl λd vs w=>w.imp_right λt=>t.map hb λz_=>id
end
section
variable{S:Sx}{f:Fx}{n n':Snap}{σ:St}{told:List UInt8}{e:au}{own cl:List au}
theorem tail_at(hf:f.Ok){L:au}(hL:f.env.frame=some L)(ev:dB own f.cZ cl n n')(rel:bu S f σ n')(nt:BX L told n.h e n')
  {E:af→ah→Prop}{Q:Unit→ah→Prop}{g d tk os}(h:∀ h',dB own f.cZ cl n ⟨n'.X,h'⟩→bu S f σ ⟨n'.X,h'⟩→BX L told n.h e ⟨n'.X,h'⟩→Q () ⟨h',g,d,tk,os⟩):
  wpAny (model S.prog S.w) f.A (jy (.ref e) f.env) Q E ⟨n'.h,g,d,tk,os⟩:=by
 refine fO λzz=>?_
 obtain⟨_,_,_,ge,_,_,da,_,⟨b1,_⟩⟩:=id nt
 refine zz ?_
 unfold jy
 refine wpAny_bind (wpAny_field ge da b1 ?_)
 rw[if_neg (show¬((fY _ == dH)=true) from λq=>nomatch eq_of_beq q),hL]
 exact w7 hf (some L) ev rel nt h
theorem y_(hf:f.Ok){L:au}(hL:f.env.frame=some L)(ho:∃ outer,f.fr=f.env::outer)(hoff:∀ a ∈ f.cZ,∃ o,n.h.get? a=some o)(ev:dB own f.cZ cl n n')(rel:bu S f σ n')(fl:eN f.L told n.h e n')
  {E E':af→ah→Prop}{g d tk os}(h:∀ h',dB own f.cZ cl n ⟨n'.X,h'⟩→bu S f σ ⟨n'.X,h'⟩→eN f.L told n.h e ⟨n'.X,h'⟩→E (.ref e) ⟨h',g,d,tk,os⟩):
  noted (model S.prog S.w) f.A f.env (λx s'=>aA (model S.prog S.w) f.A (jy x f.env) (λz_ s''=>E x s'') E' s') (.ref e) ⟨n'.h,g,d,tk,os⟩:=by
 have eL:f.L=some L:=hL
 rw[eL] at fl h
 exact bS (xu hf hL ho hoff ev rel fl λh' ev' rel' nt=>bS (tail_at hf hL ev' rel' nt λh2 iw kK Qu=>h h2 iw kK Qu.flight))
end
section
variable{S:Sx}{f:Fx}{sc:List (Str×aE)}{P:Pg}
noncomputable def Sub(σ σ':St):Prop:=∃ e G,σ=⟨σ'.locs++e,G,σ'.dom,σ'.un⟩∧pull G (σ'.foot.map (·.1))=some σ'.foot
theorem KU{a b:List (Str×MV)}{x:Str}{v:MV}(h:lk a x=some v):lk (a++b) x=some v:=by
 induction a with
 | nil=>exact bR h
 | cons p r ih=>
  have h:cond (bT p.1 x) (some p.2) (lk r x)=some v:=h
  show cond (bT p.1 x) (some p.2) (lk (r++b) x)=some v
  cases q:bT p.1 x with
  | true=>rw[q] at h;exact h
  | false=>rw[q] at h;exact ih h
theorem bu.sub{f:Fx}{n:Snap}{σ σ':St}(rel:bu S f σ n)(h:Sub σ σ'):bu S f σ' n:=by
 refine E2_2 h λe G eV hp=>?_
 subst eV
 refine E1_3 rel.locs λm hm l1 l2=>?_
 have I:=rel.inv
 exact⟨⟨⟨I.P,I.base,I.sub,λk o h=>I.foot k o ((sq _ hp).2 k o h),I.off⟩,rel.dom,rel.off,rel.frames⟩,⟨m,hm,λx mv hx=>l1 x mv (KU hx),l2⟩,rel.kB,rel.cells⟩
noncomputable def vU(inv:St→Prop)(Q:Res cj→St→Prop)(r:Res cj)(σ:St):Prop:=match r with
 | .ok .next=>inv σ
 | .ok .cont=>inv σ
 | .ok .brk=>Q (.ok .next) σ
 | .ok (.ret v)=>Q (.ok (.ret v)) σ
 | .exc t=>Q (.exc t) σ
noncomputable def CJ(yes no:St→Prop)(Q:Res cj→St→Prop)(r:Res Bool)(σ:St):Prop:=match r with
 | .ok true=>yes σ
 | .ok false=>no σ
 | .exc t=>Q (.exc t) σ
theorem Ab{ih:Ih}(hI:dX S f ih)(hf:f.Ok){L:au}(hL:f.env.frame=some L)(ho:∃ outer,f.fr=f.env::outer){test:aJ}{body:List dO}{pos:Pos}{Q:Res cj→St→Prop}(inv:Nat→St→Prop)
  (turn:∀ k σ,inv k σ→ih.qg test σ (CJ (λσ₁=>ih.exs body σ₁ (vU (λσ₂=>∃ m,m<k∧∃ σ₃,Sub σ₂ σ₃∧inv m σ₃) Q)) (λσ₁=>Q (.ok .next) σ₁) Q))
  {k:Nat}{σ:St}(h:inv k σ):gE S f (.While test body [] pos) σ Q:=by
 refine⟨λn rel g d tk os Q' E' P'=>?_⟩
 show aA _ _ (do standAt pos;runOwn (.whileLoop test body [] f.env) f.env) _ _ _
 refine ai (bG ?_)
 have hoff:∀ a ∈ f.cZ,∃ o,n.h.get? a=some o:=λb hb=>(rel.off b hb).2.2
 refine p5 rfl ?_
 have eA:f.A.mark none=f.A:=rfl
 rw[eA]
 have exc:∀ n' tk' σ' t e,dB f.own f.cZ f.cl n n'→bu S f σ' n'→Q (.exc t) σ'→eN f.L t n.h e n'→noted (model S.prog S.w) f.A f.env (λx s'=>aA (model S.prog S.w) f.A (jy x f.env) (λz_ s''=>E' x s'') E' s') (.ref e) ⟨n'.h,g,d,tk',os⟩:=by
  exact λn' tk' σ' t e ev rel' hq fl=>y_ hf hL ho hoff ev rel' fl λh' ev' vM GV=>(P' _ tk' σ' ev' vM).2 t hq e GV
 refine FH (λk s=>∃ n' σ' tk',s=⟨n'.h,g,d,tk',os⟩∧dB f.own f.cZ f.cl n n'∧bu S f σ' n'∧inv k σ') ?_ k ⟨n,σ,tk,rfl,.refl n,rel,h⟩
 intro k s Lz
 refine E3_4 Lz λn₁ σ₁ tk₁ rU j7 i8 oV=>?_
 subst rU
 refine hI.qg test n₁ σ₁ _ i8 (turn k σ₁ oV) g d tk₁ os _ _ λn₂ tk₂ σ₂ oj gV=>⟨λb hq b' hb=>?_,λt hq e fl=>?_⟩
 ·cases hb
  have ev:=j7.trans oj
  cases b with
  | true=>
   rw[if_pos rfl]
   refine hI.exs body n₂ σ₂ _ gV hq g d tk₂ os _ _ λn₃ tk₃ σ₃ lJ iJ=>⟨λfl hq GV hfl=>?_,λt hq e ER=>?_⟩
   ·cases hfl with
    | next=>obtain⟨m,hm,σ₄,hs,hi⟩:=hq;exact⟨m,hm,n₃,σ₄,tk₃,rfl,ev.trans lJ,iJ.sub hs,hi⟩
    | cont=>obtain⟨m,hm,σ₄,hs,hi⟩:=hq;exact⟨m,hm,n₃,σ₄,tk₃,rfl,ev.trans lJ,iJ.sub hs,hi⟩
    | brk=>exact(P' n₃ tk₃ σ₃ (ev.trans lJ) iJ).1 _ hq _ .next
    | ret hv=>exact(P' n₃ tk₃ σ₃ (ev.trans lJ) iJ).1 _ hq _ (.ret hv)
   ·exact exc n₃ tk₃ σ₃ t e (ev.trans lJ) iJ hq (ER.older ev.live)
  | false=>
   rw[if_neg (by decide)]
   exact aD ((P' n₂ tk₂ σ₂ ev gV).1 _ hq _ .next)
 ·exact exc n₂ tk₂ σ₂ t e (j7.trans oj) gV hq (fl.older j7.live)
end
structure It(prog:cP)(w:cE)(A:bC)(target:aJ)(I:au)(xs:List PV)(P:aV)(G:au→Option Obj)(fp wr:List au)(St:Nat→b9→Prop):Prop where
 sub:∀ b ∈ wr,b ∈ fp
 frame:∀ i h h',St i h→(∀ b ∈ fp,∀ o,h.get? b=some o→h'.get? b=some o)→St i h'
 item:∀ i (s:ah) (Q:af→ah→Prop) (E:af→ah→Prop) x,xs[i]? =some x→(∀ b o,G b=some o→s.heap.get? b=some o)→St i s.heap→
  (∀ v h' tk,(cy P G v x∨∃ T o,s.heap.get? T=none∧h'.get? T=some o∧cy P (λa=>if a=T then some o else G a) v x)→St (i+1) h'→(∀ b o,b ∉ wr→s.heap.get? b=some o→h'.get? b=some o)→Q v {s with heap:=h',toks:=tk})→
  wpAny (model prog w) A (pyNext (.ref I)) (λr s'=>∃ v,r=some v∧wpAny (model prog w) A (letOwnedTupleGo target (.ref I) v) (λz_ s''=>Q v s'') E s') E s
 done:∀ (s:ah) (Q:Option af→ah→Prop) (E:af→ah→Prop),St xs.length s.heap→
  (∀ h' tk,(∀ b o,b ∉ wr→s.heap.get? b=some o→h'.get? b=some o)→Q none {s with heap:=h',toks:=tk})→wpAny (model prog w) A (pyNext (.ref I)) Q E s
 self:∀ i (s:ah) (Q:af→ah→Prop) (E:af→ah→Prop),St i s.heap→Q (.ref I) s→wpAny (model prog w) A (pyIter (.ref I)) Q E s
 live:∀ i h,St i h→∀ b ∈ wr,∃ o,h.get? b=some o
section
variable{prog:cP}{w:cE}{A:bC}
noncomputable def jD(e:aJ):Bool:= !(aO 24 e.ctorIdx&&aO e.ctorIdx 25)
theorem yM{target:aJ}(h:jD target=true){M:g6}{E:af→ah→Prop}{s:ah}{it v:af}{Q:Unit→ah→Prop}(q:Q () s):wpAny M A (letOwnedTupleGo target it v) Q E s:=by
 cases target <;> first | exact gy h | exact wpAny_pure q
theorem yL{target:aJ}{M:g6}{E:af→ah→Prop}{s:ah}{r l:au}{i:Nat}{v:af}(hi:s.heap.IsListIter r l i){Q:Unit→ah→Prop}(q:Q () s):wpAny M A (letOwnedTupleGo target (.ref r) v) Q E s:=by
 refine E1_3 hi λo ho hc hd=>?_
 have body:wpAny M A (match(fY r,v) with
   | (.ref r,.ref a)=>(do
    let o ←load r
    match o.cls,o.data with
    | .type n,.fields vs=>
     if["enumerate","zip","dict_itemiterator","dict_reverseitemiterator","odict_iterator","itertools.zip_longest","itertools.pairwise"].contains n&&vs[0]? == some (rawInt a) then
      rule "for.unpacks-the-owned-tuple"
      updateField r 0 .none
    | _,_=>pure ())
   | _=>(pure ():Sem Unit)) Q E s:=by
  cases v with
  | ref a=>
   refine wpAny_bind (wpAny_load ho ?_)
   rw[hc,hd]
   show wpAny _ _ (if(["enumerate","zip","dict_itemiterator","dict_reverseitemiterator","odict_iterator","itertools.zip_longest","itertools.pairwise"].contains "list_iterator"&&_)=true then _ else _) _ _ _
   rw[if_neg (by
    have:(["enumerate","zip","dict_itemiterator","dict_reverseitemiterator","odict_iterator","itertools.zip_longest","itertools.pairwise"].contains "list_iterator")=false:=by decide
    rw[this];simp)]
   exact wpAny_pure q
  | _=>exact wpAny_pure q
 cases target <;> first | exact body | exact wpAny_pure q
theorem It.list(hh:A.handled=none){target:aJ}{I l:au}{its:List af}{xs:List PV}{P:aV}{G:au→Option Obj}(hne:l≠I)(r:bQ P G its xs):
  It prog w A target I xs P G [I,l] [I] (λi h=>h.IsListIter I l i∧h.IsList l its.toArray) where
 sub:=(Walks.list (prog:=prog) (w:=w) hh I l hne its.toArray).sub
 frame:=(Walks.list (prog:=prog) (w:=w) hh I l hne its.toArray).frame
 item:=λi s Q E x hx sub st hQ=>by
  refine E1_2 (r.get hx) λv hv pr=>?_
  have hi:i<its.toArray.size:=by
   rw[aG]
   rcases fq i its.length with h | h
   ·exact h
   ·rw[eZ h] at hv;exact bR hv
  refine(Walks.list (prog:=prog) (w:=w) hh I l hne its.toArray).item i s _ E hi st λv' h' tk hp st' kp=>⟨v',rfl,?_⟩
  have e:v'=v:=by
   have hp:its.toArray[i]? =some v':=hp
   rw[jc,hv] at hp;cases hp;rfl
  subst e
  exact yL st'.1 (hQ v' h' tk (.inl pr) st' kp)
 done:=λs Q E st hQ=>(Walks.list (prog:=prog) (w:=w) hh I l hne its.toArray).done s Q E (by rw[aG,r.length];exact st) hQ
 self:=(Walks.list (prog:=prog) (w:=w) hh I l hne its.toArray).self
 live:=λi h st b hb=>by rw[az.mp hb];obtain⟨o,ho,_⟩:=st.1;exact⟨o,ho⟩
theorem It.bytes(hh:A.handled=none){target:aJ}{I:au}{b:List UInt8}{t:Tok}{l:Bool}{P:aV}{G:au→Option Obj}(ht:jD target=true):
  It prog w A target I (b.map λc=>PV.int l (c.toNat:Int)) P G [I] [I] (λi h=>iA h I b.toArray t i) where
 sub:=(KBw.walks (prog:=prog) (w:=w) hh I b.toArray t).sub
 frame:=(KBw.walks (prog:=prog) (w:=w) hh I b.toArray t).frame
 item:=λi s Q E x hx sub st hQ=>by
  rw[fH] at hx
  cases hb:b[i]? with
  | none=>rw[hb] at hx;exact bR hx
  | some c=>
  rw[hb] at hx;cases hx
  have hi:i<b.toArray.size:=by
   rw[aG];exact(bW.mp hb).1
  refine(KBw.walks (prog:=prog) (w:=w) hh I b.toArray t).item i s _ E hi st λv' h' tk hp st' kp=>⟨v',rfl,?_⟩
  refine E2_2 hp λc' u hc rU=>?_
  subst rU
  rw[jc,hb] at hc;cases hc
  exact yM ht (hQ _ h' tk (.inl .int) st' kp)
 done:=λs Q E st hQ=>(KBw.walks (prog:=prog) (w:=w) hh I b.toArray t).done s Q E (by rw[aG];rw[aC] at st;exact st) hQ
 self:=(KBw.walks (prog:=prog) (w:=w) hh I b.toArray t).self
 live:=λi h st b hb=>by rw[az.mp hb];obtain⟨o,ho,_⟩:=st;exact⟨o,ho⟩
noncomputable def tF(l:Bool):Nat→Nat→List PV
 | _,0=>[]
 | i,n+1=>.int l (jG i)::tF l (i+1) n
theorem lK(l:Bool):∀ (n i:Nat),(tF l i n).length=n
 | 0,_=>rfl
 | n+1,i=>by unfold tF;rw[bE,lK l n]
theorem m9(l:Bool):∀ (n i j:Nat) (x:PV),(tF l i n)[j]? =some x→x= .int l ((i+j:Nat):Int)∧j<n
 | 0,_,_,_,h=>by exact bR h
 | n+1,i,0,x,h=>by
  have h:some (PV.int l (jG i))=some x:=h
  cases h;exact⟨rfl,Nat.zero_lt_succ _⟩
 | n+1,i,j+1,x,h=>by
  refine A2 (m9 l n (i+1) j x (by simpa [tF] using h)) λh1 h2=>?_
  exact⟨by rw[h1];congr 1;exact congrArg (λn:Nat=>(n:Int)) (cY i j),Nat.succ_lt_succ h2⟩
theorem It.range(hh:A.handled=none){target:aJ}{I:au}{n:Nat}{P:aV}{G:au→Option Obj}(ht:jD target=true):
  It prog w A target I (tF false 0 n) P G [I] [I] (λi h=>IsRangeIter h I (0+(i:Nat)*1) ((n:Int)-(i:Nat)) 1) where
 sub:=(Walks.range (prog:=prog) (w:=w) hh I 0 1 n).sub
 frame:=(Walks.range (prog:=prog) (w:=w) hh I 0 1 n).frame
 item:=λi s Q E x hx sub st hQ=>by
  obtain⟨rfl,hi⟩:=m9 false n 0 i x hx
  refine(Walks.range (prog:=prog) (w:=w) hh I 0 1 n).item i s _ E hi st λv' h' tk hp st' kp=>⟨v',rfl,?_⟩
  obtain⟨t,rfl⟩:=hp
  have e:(0:Int)+(i:Int)*1=((0+i:Nat):Int):=by exact(Int.zero_add _).trans ((Int.mul_one _).trans (congrArg jG (eG i).symm))
  rw[e]
  exact yM ht (hQ _ h' tk (.inl .int) st' kp)
 done:=λs Q E st hQ=>(Walks.range (prog:=prog) (w:=w) hh I 0 1 n).done s Q E (by rw[lK] at st;exact st) hQ
 self:=(Walks.range (prog:=prog) (w:=w) hh I 0 1 n).self
 live:=λi h st b hb=>by rw[az.mp hb];exact⟨_,st⟩
theorem It.pairs{elts:List aJ}{k:Nat}{pos:Pos}{I:au}{fp wr:List au}{n:Nat}{Pt:Nat→Array af→Prop}{St:Nat→b9→Prop}{Mid:Nat→au→b9→Prop}(W:WalksT prog w A I fp wr n Pt St Mid)
  {xs:List PV}{P:aV}{G:au→Option Obj}(hlive:∀ i h,St i h→∀ b ∈ wr,∃ o,h.get? b=some o)(hn:xs.length=n)
  (hit:∀ i (s:ah) (Q:Option af→ah→Prop) (E:af→ah→Prop),i<n→St i s.heap→
   (∀ T v0 v1 m h' tk,Pt i #[v0,v1]→s.heap.objs.size≤T→h'.get? T=some (o8 [v0,v1] m)→Mid i T h'→(∀ b o,b ∉ wr→s.heap.get? b=some o→h'.get? b=some o)→Q (some (.ref T)) {s with heap:=h',toks:=tk})→wpAny (model prog w) A (pyNext (.ref I)) Q E s)
  (hP:∀ i v0 v1 x,xs[i]? =some x→Pt i #[v0,v1]→∃ a b,x= .tup [a,b]∧cy P G v0 a∧cy P G v1 b):
  It prog w A (.Tuple elts k pos) I xs P G fp wr St where
 sub:=W.sub
 frame:=W.frame
 item:=λi s Q E x hx sub st hQ=>by
  have hi:i<n:=by rw[←hn];exact(bW.mp hx).1
  refine hit i s _ E hi st λT v0 v1 m h' tk hp hT gT mid kp=>⟨.ref T,rfl,?_⟩
  refine E2_3 (hP i v0 v1 x hx hp) λa b eV p0 p1=>?_
  subst eV
  have nT:s.heap.get? T=none:=by
   cases q:s.heap.get? T with
   | none=>rfl
   | some o=>exact absurd (bB q) (kI.mpr hT)
  refine W.go elts k pos i T _ _ E mid λh'' st' OL=>?_
  have SI:=OL T _ (W.apart i T h' mid) gT
  have gm:∀ c ob,G c=some ob→(λa=>if a=T then some (o8 [v0,v1] m) else G a) c=some ob:=λc ob e=>by
   show(if c=T then _ else _)=_
   rw[if_neg];exact e
   rintro rfl;have:=sub _ _ e;rw[nT] at this;exact bR this
  exact hQ _ h'' _ (.inr ⟨T,_,nT,SI,.tup (if_pos rfl) (.cons (p0.mono gm) (.cons (p1.mono gm) .nil))⟩) st' λb o hb e=>OL b o hb (kp b o hb e)
 done:=λs Q E st hQ=>W.done s Q E (by rw[←hn];exact st) hQ
 self:=W.self
 live:=hlive
end
section
variable{prog:cP}{w:cE}{A:bC}{E:af→ah→Prop}{s:ah}
noncomputable def rT:List PV→List PV→List PV
 | a::r,b::q=>.tup [a,b]::rT r q
 | _,_=>[]
theorem uy:∀ {a b:List PV},(rT a b).length=min a.length b.length
 | [],[]=>rfl
 | [],_::_=>by simp[rT]
 | _::_,[]=>by simp[rT]
 | _::r,_::q=>by unfold rT;rw[bE,uy,bE,bE];exact(Nat.succ_min_succ _ _).symm
theorem ux:∀ {a b:List PV}{i:Nat}{x:PV},(rT a b)[i]? =some x→∃ p q,x= .tup [p,q]∧a[i]? =some p∧b[i]? =some q
 | [],b,i,x,h=>by unfold rT at h;exact bR h
 | _::_,[],i,x,h=>by unfold rT at h;exact bR h
 | a::r,b::q,0,x,h=>by
  unfold rT at h
  cases h;exact⟨a,b,rfl,rfl,rfl⟩
 | a::r,b::q,i+1,x,h=>by
  unfold rT at h
  exact ux (a:=r) (b:=q) (by simpa using h)
theorem It.zip(hh:A.handled=none){elts:List aJ}{k:Nat}{pos:Pos}{z TI TO i1 i2 l1 l2:au}(D:ZipApart z TI TO i1 i2 l1 l2){AP its2:List af}{xs ys:List PV}{P:aV}{G:au→Option Obj}(r1:bQ P G AP xs)(r2:bQ P G its2 ys):
  It prog w A (.Tuple elts k pos) z (rT xs ys) P G [z,TI,TO,i1,i2,l1,l2] [z,TO,i1,i2]
   (λi h=>IsZip h z TI TO .none∧IsPair h TI (.ref i1) (.ref i2)∧(∃ a b,IsPair h TO a b)∧h.IsListIter i1 l1 i∧h.IsListIter i2 l2 i∧h.IsList l1 AP.toArray∧h.IsList l2 its2.toArray):=by
 refine It.pairs (WalksT.zip2 hh z TI TO i1 i2 l1 l2 D AP.toArray its2.toArray) (λi h st b hb=>?_) (by rw[uy,aG,aG,r1.length,r2.length]) (λi s Q E hi hst hQ=>?_) λi v0 v1 x hx hp=>?_
 ·refine A6 st λhz hTI GS GU LA z_=>?_
  refine E2_1 GS λa b' hTO=>?_
  refine E1_2 GU λo1 h1 z_=>?_
  refine E1_2 LA λo2 h2 z_=>?_
  simp only[ay,jI,or_false] at hb
  rcases hb with rfl | rfl | rfl | rfl
  ·exact⟨_,hz⟩
  ·exact⟨_,hTO⟩
  ·exact⟨_,h1⟩
  ·exact⟨_,h2⟩
 ·refine A7 hst λhz hTI Ow h1 h2 hl1 hl2=>?_
  refine E2_1 Ow λa b hTO=>?_
  have hix:i<AP.toArray.size:=kH hi (Nat.min_le_left ..)
  have Ry:i<its2.toArray.size:=kH hi (Nat.min_le_right ..)
  refine wpAny_pyNext_zip_item D hz hTI hTO h1 h2 hl1 hl2 (jP hix) (jP Ry) λh' a1 a2 a3 a4 a5 a6 hk=>?_
  have lt:∀ {c o},s.heap.get? c=some o→s.heap.objs.size≠c:=λe=>oG (bB e)
  exact hQ s.heap.objs.size _ _ 0 h' s.toks ⟨_,_,jP hix,jP Ry,rfl⟩ (bf _) a5
   ⟨a1,hk _ _ D.TIz D.TITO D.TIi1 D.TIi2 hTI,⟨_,_,a2⟩,a3,a4,hl1.at λo e=>hk _ o D.l1z D.l1TO D.l1i1 D.l1i2 e,hl2.at λo e=>hk _ o D.l2z D.l2TO D.l2i1 D.l2i2 e,
    lt hz,lt hTO,(by obtain⟨_,e,_⟩:=h1;exact lt e),(by obtain⟨_,e,_⟩:=h2;exact lt e)⟩
   λc o hc e=>hk c o (λx=>hc (by simp[x])) (λx=>hc (by simp[x])) (λx=>hc (by simp[x])) (λx=>hc (by simp[x])) e
 ·refine E2_3 (ux hx) λp q eV e1 e2=>?_
  subst eV
  refine E2_3 hp λx' y' g1 g2 ev=>?_
  refine E1_2 (r1.get e1) λu f1 f2=>?_
  refine E1_2 (r2.get e2) λu' Sw Sy=>?_
  rw[jc,f1] at g1;cases g1
  rw[jc,Sw] at g2;cases g2
  have ev:=congrArg uD ev
  cases ev
  exact⟨p,q,rfl,f2,Sy⟩
theorem zx{it:au}{b:Array UInt8}{t:Tok}{i:Nat}{c:UInt8}{Q:af→ah→Prop}(hit:iA s.heap it b t i)(hx:b[i]? =some c)
  (hQ:∀ h',iA h' it b t (i+1)→fM it s.heap h'→Q (.int (c.toNat:Int) s.toks) {s with heap:=h',toks:=s.toks+1}):wpAny (model prog w) A (kM (.ref it)) Q E s:=by
 refine E1_3 (id hit) λo ho hc hd=>?_
 unfold kM
 refine wpAny_bind (wpAny_callSpecial?_slot (name:=PySem.Str.ofString "__next__") (KBw.iter_typeIs hit) KBw.slot_next
  (wpAny_call_entry KBw.slot_next (KBw.iter_typeIs hit) KBw.entry_next ?_ (KBw.args_next _)))
 show wpAny _ _ (field (.ref it) 0>>=_) _ _ s
 refine wpAny_bind (wpAny_field ho hd (x:=.bytes b t) rfl ?_)
 show wpAny _ _ (if(pD b t == dH)=true then _ else _) _ _ s
 rw[if_neg (show¬((pD b t == dH)=true) from gp)]
 show wpAny _ _ (field (.ref it) 1>>=_) _ _ s
 refine wpAny_bind (wpAny_field ho hd (x:=.int i 0) rfl ?_)
 refine wpAny_bind (wpAny_of_eq (a:=b) rfl ?_)
 simp only[Int.toNat_natCast,hx]
 refine wpAny_bind (wpAny_setField ho hd (by simp) (wpAny_bind (wpAny_mkInt (wpAny_pure ⟨_,rfl,wpAny_pure (hQ _ ?_ (Heap.SameBut.update ..))⟩))))
 exact⟨_,dh _ ho (nX (Obj.data_mapFields hd _)),(Obj.cls_mapFields ..).trans hc,by
  rw[Obj.data_mapFields hd];simp[rawInt]⟩
theorem Bd{it:au}{b:Array UInt8}{t:Tok}{i:Nat}{Q:af→ah→Prop}(hh:A.handled=none)(hit:iA s.heap it b t i)(hx:b[i]? =none)
  (hE:∀ h' e,Heap.ExtBut it s.heap h'→(∃ o,h'.get? e=some o∧o.cls= .type "StopIteration")→E (.ref e) {s with heap:=h'}):wpAny (model prog w) A (kM (.ref it)) Q E s:=by
 refine E1_3 (id hit) λo ho hc hd=>?_
 unfold kM
 refine wpAny_bind (wpAny_callSpecial?_slot (name:=PySem.Str.ofString "__next__") (KBw.iter_typeIs hit) KBw.slot_next
  (wpAny_call_entry KBw.slot_next (KBw.iter_typeIs hit) KBw.entry_next ?_ (KBw.args_next _)))
 show wpAny _ _ (field (.ref it) 0>>=_) _ _ s
 refine wpAny_bind (wpAny_field ho hd (x:=.bytes b t) rfl ?_)
 show wpAny _ _ (if(pD b t == dH)=true then _ else _) _ _ s
 rw[if_neg (show¬((pD b t == dH)=true) from gp)]
 show wpAny _ _ (field (.ref it) 1>>=_) _ _ s
 refine wpAny_bind (wpAny_field ho hd (x:=.int i 0) rfl ?_)
 refine wpAny_bind (wpAny_of_eq (a:=b) rfl ?_)
 simp only[Int.toNat_natCast,hx]
 refine wpAny_bind (wpAny_rule (wpAny_bind (wpAny_setField ho hd (by simp) ?_)))
 show wpAny _ _ (newExc (.type "StopIteration") []>>=_) _ _ _
 refine wpAny_bind ?_
 simp only[newExc,newTuple]
 refine wpAny_bind (wpAny_newObj_type ?_ (by size_fits))
 refine wpAny_bind (m:=firstArgMember _ _) (wpAny_of_eq (a:=dH) (by first | rfl | (simp only[firstArgMember];rfl)) ?_)
 refine wpAny_newObj_type ?_ (by size_fits)
 simp only[raiseNew]
 refine wpAny_bind (wpAny_handled ?_)
 first | rw[show A.in1.handled=none from hh] | rw[hh]
 refine wpAny_bind (wpAny_pure (wpAny_throw ?_))
 exact hE _ _ (((Heap.SameBut.update ..).extBut.push _).push _) ⟨_,aL _ rfl,rfl⟩
theorem yF(hh:A.handled=none)(it:au)(b:Array UInt8)(t:Tok):
  Draws prog w A it [it] b.size (λi v=>∃ c u,b[i]? =some c∧v= .int (c.toNat:Int) u) (λi h=>iA h it b t i) where
 live:=λz_ z_ st=>let⟨o,ho,_⟩:=st;⟨o,ho⟩
 frame:=λz_ z_ z_ st hk=>let⟨o,ho,r⟩:=st;⟨o,hk it (by simp) o ho,r⟩
 item:=λi s Q E hi st hQ=>by
  refine zx st (c:=b[i]) (by simp[hi]) λh' P5 hs'=>?_
  exact hQ _ h' (s.toks+1) ⟨_,_,by simp[hi],rfl⟩ P5 hs'
 done:=λs Q E st hE=>Bd hh st (by simp) hE
theorem Gb{α:Type}{M:g6}{A:bC}{a:α}{Q:α→ah→Prop}{E:af→ah→Prop}{s:ah}(h:∀ a,Q a s):wpAny M A (pure a) Q E s:=wpAny_pure (h a)
set_option maxHeartbeats 1000000 in
set_option tactic.hygienic true in
theorem mU(b:Array UInt8)(t:Tok):
  Meets (fU.«enumerate.__new__» ⟨[.type "enumerate",.bytes b t],[]⟩) (λz_ R s=>
   R (.ok (.ret (.ref (s.heap.push {cls:=.type "bytes_iterator",data:=.fields #[.bytes b t,.int 0 0]}).objs.size)))
    {s with heap:=(s.heap.push {cls:=.type "bytes_iterator",data:=.fields #[.bytes b t,.int 0 0]}).push {cls:=.type "enumerate",data:=.fields #[.none,.bool false,.ref s.heap.objs.size,rawInt 0,.none,.none]}}):=
 .of_wp λprog w A R s h=>by
  obtain⟨hp,g,d,tk,os⟩:=s
  have hsub:=sub_enumerate
  wp_walk
  refine wpAny_stack_any λst=>Gb λc=>?_
  cases c
  ·wp_walk using KBw.pyIter_bytes
   exact⟨_,rfl,h⟩
  ·wp_walk using KBw.pyIter_bytes
   exact⟨_,rfl,h⟩
theorem mK{b:Array UInt8}{t:Tok}{Q:af→ah→Prop}
  (h:∀ h',IsEnum h' (s.heap.objs.size+1) s.heap.objs.size 0 .none→iA h' s.heap.objs.size b t 0→h'.objs.size=s.heap.objs.size+2→
   (∀ b o,s.heap.get? b=some o→h'.get? b=some o)→Q (.ref (s.heap.objs.size+1)) {s with heap:=h'}):
  wpAny (model prog w) A (call (.type "enumerate") [.bytes b t]) Q E s:=by
 refine callType_new F.called_enumerate (by decide) (F.typeCall_enumerate_1 _) (F.newCall_enumerate_1 _) (λobj=>F.args_object_init_2 obj _) F.entry_enumerate_new
  (mU b t) ?_
 have hz:(s.heap.push {cls:=.type "bytes_iterator",data:=.fields #[.bytes b t,.int 0 0]}).objs.size=s.heap.objs.size+1:=eY ..
 show _∧_
 rw[hz]
 have he:IsEnum ((s.heap.push {cls:=.type "bytes_iterator",data:=.fields #[.bytes b t,.int 0 0]}).push
   {cls:=.type "enumerate",data:=.fields #[.none,.bool false,.ref s.heap.objs.size,rawInt 0,.none,.none]}) (s.heap.objs.size+1) s.heap.objs.size 0 .none:=by
  have:=aL (s.heap.push {cls:=.type "bytes_iterator",data:=.fields #[.bytes b t,.int 0 0]})
   (o:={cls:=.type "enumerate",data:=.fields #[.none,.bool false,.ref s.heap.objs.size,rawInt 0,.none,.none]}) rfl
  rw[hz] at this;exact this
 refine⟨⟨_,he,rfl⟩,h _ he ⟨_,aq _ (aL _ rfl),rfl,rfl⟩ (by rw[eY,hz]) λb o y=>aq _ (aq _ y)⟩
noncomputable def s6(l:Bool):Nat→List UInt8→List PV
 | _,[]=>[]
 | i,c::r=>.tup [.int false (jG i),.int l (c.toNat:Int)]::s6 l (i+1) r
theorem vn(l:Bool):∀ (b:List UInt8) (i:Nat),(s6 l i b).length=b.length
 | [],_=>rfl
 | _::r,i=>by unfold s6;rw[bE,vn l r,bE]
theorem lI(l:Bool):∀ (b:List UInt8) (i j:Nat) (x:PV),(s6 l i b)[j]? =some x→∃ c,b[j]? =some c∧x= .tup [.int false ((i+j:Nat):Int),.int l (c.toNat:Int)]
 | [],_,_,_,h=>by exact bR h
 | c::r,i,0,x,h=>by
  have h:some (PV.tup [.int false (jG i),.int l (c.toNat:Int)])=some x:=h
  cases h;exact⟨c,rfl,rfl⟩
 | c::r,i,j+1,x,h=>by
  refine E1_2 (lI l r (i+1) j x (by simpa [s6] using h)) λc' h1 h2=>?_
  refine⟨c',by simpa using h1,?_⟩
  rw[h2,show i+1+j=i+(j+1) by exact cY i j]
theorem It.enum(hh:A.handled=none){elts:List aJ}{k:Nat}{pos:Pos}{e it:au}(hne:e≠it){b:List UInt8}{t:Tok}{l:Bool}{P:aV}{G:au→Option Obj}:
  It prog w A (.Tuple elts k pos) e (s6 l 0 b) P G (e::[it]) [e,it] (λi h=>(∃ old,IsEnum h e it i old)∧iA h it b.toArray t i):=by
 have D:=yF (prog:=prog) (w:=w) (A:=A.in1) hh it b.toArray t
 refine It.pairs (WalksT.enumerateD D e hne (by simpa using hne) (by simp)) (λi h st b hb=>?_) (by rw[vn,aG]) (λi s Q E hi hst hQ=>?_) λi v0 v1 x hx hp=>?_
 ·refine fO λzz=>?_
  obtain⟨⟨old,he⟩,⟨o,ho,_⟩⟩:=st
  refine zz ?_
  simp only[ay,jI,or_false] at hb
  rcases hb with rfl | rfl
  ·exact⟨_,he⟩
  ·exact⟨_,ho⟩
 ·refine fO λzz=>?_
  obtain⟨⟨old,he⟩,hs⟩:=hst
  refine zz ?_
  refine wpAny_pyNext_enum_itemD D he hs hi hne (by simpa using hne) λx h' tk hP ho hs' hT hsz hk=>?_
  have helt:e<s.heap.objs.size:=bB he
  have hilt:it<s.heap.objs.size:=by obtain⟨_,y⟩:=D.live _ _ hs;exact bB y
  exact hQ s.heap.objs.size _ _ 0 h' (tk+1) ⟨_,_,hP,rfl⟩ (bf _) hT
   ⟨⟨_,ho⟩,hs',oG helt,oG hilt⟩
   λb o hb y=>hk b o (λe'=>hb (by simp[e'])) (λe'=>hb (by simp[e'])) y
 ·refine fO λzz=>?_
  obtain⟨c,e1,rfl⟩:=lI l b 0 i x hx
  obtain⟨t',x',⟨c',u,f1,rfl⟩,ev⟩:=hp
  rw[jc,e1] at f1;cases f1
  have ev:=congrArg uD ev
  cases ev
  refine zz ?_
  refine⟨_,_,rfl,?_,.int⟩
  rw[show((0+i:Nat):Int)=(i:Int) by simp]
  exact .int
end
section
variable{S:Sx}{f:Fx}{n n₀:Snap}{σ:St}
theorem C9{h h':b9}:∀ {l:List Env},(∀ L ∈ l.filterMap (·.frame),∀ o,h.get? L=some o→h'.get? L=some o)→h.FunFrames dS l→h'.FunFrames dS l:=by
 intro l
 induction l with
 | nil=>exact λz_ z_=>trivial
 | cons env r ih=>
  refine λk q=>A3 q λhk z hr=>E2_4 z λL o hf hn ho hd=>?_
  rw[eK,hf] at k
  exact⟨hk,⟨L,o,hf,hn,k L (.head _) o ho,hd⟩,ih (λL hL=>k L (.tail _ hL)) hr⟩
structure kN(f:Fx)(n₀ n:Snap)(wr:List au):Prop where
 new:∀ b ∈ wr,n₀.h.get? b=none
 own:∀ b ∈ wr,n.X.own b=none
 G:∀ b ∈ wr,n.X.G b=none
theorem kN.off(fr:kN f n₀ n wr)(hl:∀ a ∈ f.cZ++f.own,∃ o,n₀.h.get? a=some o):∀ b ∈ wr,b ∉ f.cZ∧b ∉ f.own:=λb hb=>by
 constructor
 ·intro q;obtain⟨o,e⟩:=hl b (bN.mpr (.inl q));rw[fr.new b hb] at e;exact bR e
 ·intro q;obtain⟨o,e⟩:=hl b (bN.mpr (.inr q));rw[fr.new b hb] at e;exact bR e
theorem bu.lives(rel:bu S f σ n):∀ a ∈ f.cZ++f.own,∃ o,n.h.get? a=some o:=λa ha=>by
 rcases bN.mp ha with h | h
 ·exact(rel.off a h).2.2
 ·rcases ay.mp h with e | h
  ·subst e;obtain⟨m,hm,_⟩:=rel.locs;exact Ns.live hm
  ·exact rel.cells a h
theorem bu.wrote(rel:bu S f σ n){wr:List au}(fr:kN f n₀ n wr)(off:∀ b ∈ wr,b ∉ f.cZ∧b ∉ f.own)(hcl:∀ x c,f.env.cells.lookup x=some c→c ∈ f.cl){h':b9}(kp:∀ b o,b ∉ wr→n.h.get? b=some o→h'.get? b=some o):bu S f σ ⟨n.X,h'⟩:=by
 have nG:∀ a o,n.X.G a=some o→a ∉ wr:=λa o e q=>by rw[fr.G a q] at e;exact bR e
 have nO:∀ a k,n.X.own a=some k→a ∉ wr:=λa k e q=>by rw[fr.own a q] at e;exact bR e
 refine⟨⟨⟨rel.inv.P,rel.inv.base,λa o e=>kp a o (nG a o e) (rel.inv.sub a o e),λk o e=>?_,λa k e=>?_⟩,rel.dom,λa ha=>?_,C9 (λL hL o e=>kp L o (λq=>(off L q).1 hL) e) rel.frames⟩,?_,rel.kB,λc hc=>(rel.cells c hc).elim λo e=>⟨o,kp c o (λq=>(off c q).2 (.tail _ hc)) e⟩⟩
 ·refine A2 (rel.inv.foot k o e) λh1 h2=>?_
  exact⟨h1,h2.mono (.refl _) h1 λa ha=>⟨ha,λob e=>kp a ob (nO a k ha) e⟩⟩
 ·refine fO λzz=>?_
  obtain⟨h1,o,h2⟩:=rel.inv.off a k e
  refine zz ?_
  exact⟨h1,o,kp a o (nO a k e) h2⟩
 ·refine fO λzz=>?_
  obtain⟨h1,h2,o,h3⟩:=rel.off a ha
  refine zz ?_
  exact⟨h1,h2,o,kp a o (λq=>(off a q).1 ha) h3⟩
 ·refine E1_3 rel.locs λm hm h1 h2=>?_
  refine⟨m,?_,h1,λx hx=>?_⟩
  ·refine E3_2 hm λo es ep ho r=>?_
   exact⟨o,es,ep,kp _ _ (λq=>(off _ q).2 (.head _)) ho,r⟩
  ·refine fO λzz=>?_
   obtain⟨hk,c,a1,a2,a3,ob,a4,a5⟩:=h2 x hx
   refine zz ?_
   exact⟨hk,c,a1,a2,a3,ob,kp c ob (λq=>(off _ q).2 (.tail _ (hcl x c a1))) a4,a5⟩
theorem dB.wrote{own cZ cl:List au}(ev:dB own cZ cl n₀ n){wr:List au}(fr:kN f n₀ n wr){h':b9}(kp:∀ b o,b ∉ wr→n.h.get? b=some o→h'.get? b=some o):dB own cZ cl n₀ ⟨n.X,h'⟩:=by
 have nw:∀ b o,n₀.h.get? b=some o→b ∉ wr:=λb o e q=>by rw[fr.new b q] at e;exact bR e
 refine⟨ev.le,λb o e h1 h2=>?_,λb o e=>?_,ev.mW,ev.jt⟩
 ·refine A2 (ev.keep b o e h1 h2) λk1 k2=>?_
  exact⟨λhb=>kp b _ (nw b o e) (k1 hb),λhb=>(k2 hb).imp λsl z=>kp b _ (nw b o e) z⟩
 ·refine E1_1 (ev.live b o e) λo' z=>?_
  exact⟨o',kp b o' (nw b o e) z⟩
theorem bu.v8(rel:bu S f σ n){T:au}{o:Obj}(ho:n.h.get? T=some o)(hw:n.X.own T=none)(hg:n.X.G T=none)(h1:T ∉ f.cZ)(h2:T ∉ f.own)(hcl:∀ x c,f.env.cells.lookup x=some c→c ∈ f.cl):bu S f σ ⟨n.X.jK T o,n.h⟩:=by
 have gm:∀ a ob,n.X.G a=some ob→(n.X.jK T o).G a=some ob:=λa ob e=>by
  show(if a=T then some o else n.X.G a)=some ob
  rw[if_neg];exact e
  rintro rfl;rw[hg] at e;exact bR e
 have gn:∀ a,a≠T→n.X.G a=none→(n.X.jK T o).G a=none:=λa hne e=>by
  show(if a=T then some o else n.X.G a)=none
  rw[if_neg hne];exact e
 have le:n.X.le (n.X.jK T o):=⟨rfl,gm,λz_ h=>h,λz_ z_=>rfl⟩
 refine⟨⟨⟨rel.inv.P,λa ob e=>gm a ob (rel.inv.base a ob e),λa ob e=>?_,λk ob e=>?_,λa k e=>?_⟩,rel.dom,λa ha=>?_,rel.frames⟩,?_,?_,rel.cells⟩
 ·have e:(if a=T then some o else n.X.G a)=some ob:=e
  split at e
  ·rename_i q;cases e;rw[q];exact ho
  ·exact rel.inv.sub a ob e
 ·refine A2 (rel.inv.foot k ob e) λz1 z2=>?_
  exact⟨z1,z2.mono le z1 λa ha=>⟨ha,λob e=>e⟩⟩
 ·refine A2 (rel.inv.off a k e) λz1 z2=>?_
  exact⟨gn a (λq=>by rw[q,hw] at e;exact bR e) z1,z2⟩
 ·refine A3 (rel.off a ha) λz1 z2 z3=>?_
  exact⟨z1,gn a (λq=>h1 (q▸ha)) z2,z3⟩
 ·refine E1_3 rel.locs λm hm l1 l2=>?_
  refine⟨m,hm,λx mv e=>?_,λx hx=>?_⟩
  ·refine E1_2 (l1 x mv e) λv hv r=>?_
   refine⟨v,hv.mono le,?_⟩
   split at r
   ·exact r
   ·obtain⟨c,ob,a1,a2,a3⟩:=r;exact⟨c,ob,a1,gm _ _ a2,a3⟩
   ·obtain⟨c,ob,a1,a2,a3⟩:=r;exact⟨c,ob,a1,gm _ _ a2,a3⟩
   ·exact r
  ·refine fO λzz=>?_
   obtain⟨hk,c,a1,a2,a3,r⟩:=l2 x hx
   refine zz ?_
   exact⟨hk,c,a1,a2,gn c (λq=>h2 (.tail _ (q▸hcl x c a1))) a3,r⟩
 ·exact⟨rel.kB.1,gn _ (λq=>h2 (q▸ .head _)) rel.kB.2⟩
theorem dB.v8{own cZ cl:List au}(ev:dB own cZ cl n₀ n){T:au}{o:Obj}(hn:n₀.h.get? T=none)(hg:n.X.G T=none):dB own cZ cl n₀ ⟨n.X.jK T o,n.h⟩:=by
 refine⟨ev.le.trans ⟨rfl,λa ob e=>?_,λz_ h=>h,λz_ z_=>rfl⟩,ev.keep,ev.live,ev.mW,λa ob e=>?_⟩
 ·show(if a=T then some o else n.X.G a)=some ob
  rw[if_neg];exact e
  rintro rfl;rw[hg] at e;exact bR e
 ·have e:(if a=T then some o else n.X.G a)=some ob:=e
  split at e
  ·rename_i q;rw[q];exact .inr (.inr (.inl hn))
  ·exact ev.jt a ob e
theorem e9(f:Fx):∀ x c,f.env.cells.lookup x=some c→c ∈ f.cl:=λx c h=>cJ.mpr ⟨_,mem_of_lookup h,rfl⟩
noncomputable def Kept(f:Fx)(n:Snap)(fp:List au):Prop:=∀ b ∈ fp,(∃ o,n.X.G b=some o)∨(n.X.own b=none∧(∃ o,n.h.get? b=some o)∧b ∉ f.cZ∧b ∉ f.own)
theorem Kept.step{σ':St}{fp:List au}{n':Snap}(k:Kept f n fp)(I:Inv S σ.foot n)(I':Inv S σ'.foot n')(ev:dB f.own f.cZ f.cl n n'):Kept f n' fp∧∀ b ∈ fp,∀ o,n.h.get? b=some o→n'.h.get? b=some o:=by
 have key:∀ b ∈ fp,∀ o,n.h.get? b=some o→n'.h.get? b=some o:=λb hb o e=>by
  rcases k b hb with ⟨o',g⟩ | ⟨h1,_,h2,h3⟩
  ·have:=I.sub b o' g
   rw[e] at this;cases this
   exact I'.sub b o (ev.le.G b o g)
  ·exact(ev.keep b o e h1 h3).1 h2
 refine⟨λb hb=>?_,key⟩
 rcases k b hb with ⟨o',g⟩ | ⟨h1,⟨o,ho⟩,h2,h3⟩
 ·exact .inl ⟨o',ev.le.G b o' g⟩
 ·exact .inr ⟨ev.iD ho h1,⟨o,key b hb o ho⟩,h2,h3⟩
structure Runs(S:Sx)(f:Fx)(target:aJ)(I:au)(xs:List PV)(X₀:Rc)(fp wr:List au)(Sp:Nat→b9→Prop)(n₀ n:Snap)(i:Nat):Prop where
 it:It S.prog S.w f.A target I xs X₀.P X₀.G fp wr Sp
 le:X₀.le n.X
 at_:Sp i n.h
 kept:Kept f n fp
 fresh:kN f n₀ n wr
 offs:∀ b ∈ wr,b ∉ f.cZ∧b ∉ f.own
theorem Runs.off{target I xs X₀ fp wr Sp i}(r:Runs S f target I xs X₀ fp wr Sp n₀ n i):∀ b ∈ wr,b ∉ f.cZ∧b ∉ f.own:=r.offs
theorem Runs.step{target I xs X₀ fp wr Sp i}{n':Snap}{σ':St}(r:Runs S f target I xs X₀ fp wr Sp n₀ n i)(rel:bu S f σ n)(rel':bu S f σ' n')(ev:dB f.own f.cZ f.cl n n'):Runs S f target I xs X₀ fp wr Sp n₀ n' i:=by
 refine A2 (r.kept.step rel.inv rel'.inv ev) λk1 k2=>?_
 have off:=r.off
 refine⟨r.it,r.le.trans ev.le,r.it.frame i _ _ r.at_ k2,k1,⟨r.fresh.new,λb hb=>?_,λb hb=>?_⟩,r.offs⟩
 ·rcases r.kept b (r.it.sub b hb) with ⟨o,g⟩ | ⟨h1,⟨o,ho⟩,_⟩
  ·rw[r.fresh.G b hb] at g;exact bR g
  ·exact ev.iD ho h1
 ·rcases r.kept b (r.it.sub b hb) with ⟨o,g⟩ | ⟨h1,⟨o,ho⟩,_⟩
  ·rw[r.fresh.G b hb] at g;exact bR g
  ·exact q9 ev ho h1 (r.fresh.G b hb) (λq=>(off b hb).2 (.tail _ q))
theorem Runs.next{target I xs X₀ fp wr Sp i x}(r:Runs S f target I xs X₀ fp wr Sp n₀ n i)(hx:xs[i]? =some x)(ev:dB f.own f.cZ f.cl n₀ n)(rel:bu S f σ n){E:af→ah→Prop}{Q:af→ah→Prop}{g d tk os}
  (h:∀ n' tk' v,dB f.own f.cZ f.cl n₀ n'→bu S f σ n'→Runs S f target I xs X₀ fp wr Sp n₀ n' (i+1)→cy n'.X.P n'.X.G v x→(n.X.le n'.X∧∀ b o,b ∉ wr→n.h.get? b=some o→n'.h.get? b=some o∧n'.X.own b=n.X.own b∧n'.X.G b=n.X.G b)→Q v ⟨n'.h,g,d,tk',os⟩):
  wpAny (model S.prog S.w) f.A (pyNext (.ref I)) (λr s'=>∃ v,r=some v∧wpAny (model S.prog S.w) f.A (letOwnedTupleGo target (.ref I) v) (λz_ s''=>Q v s'') E s') E ⟨n.h,g,d,tk,os⟩:=by
 refine r.it.item i ⟨n.h,g,d,tk,os⟩ Q E x hx (λb o e=>rel.inv.sub b o (r.le.G b o e)) r.at_ λv h' tk' hv st kp=>?_
 have off:=r.off
 have jf:=ev.wrote (f:=f) r.fresh kp
 have je:=rel.wrote r.fresh off (e9 f) kp
 have hf1:kN f n₀ ⟨n.X,h'⟩ wr:=⟨r.fresh.new,r.fresh.own,r.fresh.G⟩
 have AG:∀ b ∈ fp,∃ o,h'.get? b=some o:=by
  intro b hb
  by_cases q:b ∈ wr
  ·exact r.it.live _ _ st b q
  ·rcases r.kept b hb with ⟨o,g⟩ | ⟨_,⟨o,ho⟩,_⟩
   ·exact⟨o,kp b o q (rel.inv.sub b o g)⟩
   ·exact⟨o,kp b o q ho⟩
 have Jm:Kept f ⟨n.X,h'⟩ fp:=λb hb=>(r.kept b hb).imp id λ⟨a1,_,a3,a4⟩=>⟨a1,AG b hb,a3,a4⟩
 rcases hv with hv | ⟨T,o,nT,hT,hv⟩
 ·refine h ⟨n.X,h'⟩ tk' v jf je ⟨r.it,r.le,st,Jm,hf1,r.offs⟩ ?_ ⟨.refl _,λb o hb e=>⟨kp b o hb e,rfl,rfl⟩⟩
  have e:=r.le.P
  show cy n.X.P n.X.G v x
  rw[e];exact hv.mono r.le.G
 ·have oT:=aZ rel.inv nT
  have Tn:n₀.h.get? T=none:=dg ev.live nT
  have nT:n.h.get? T=none:=nT
  have a1:T ∉ f.cZ:=λq=>by obtain⟨o,e⟩:=rel.lives T (bN.mpr (.inl q));rw[nT] at e;exact bR e
  have a2:T ∉ f.own:=λq=>by obtain⟨o,e⟩:=rel.lives T (bN.mpr (.inr q));rw[nT] at e;exact bR e
  have kK:=je.v8 (n:=⟨n.X,h'⟩) hT oT.1 oT.2 a1 a2 (e9 f)
  have iw:=jf.v8 (n:=⟨n.X,h'⟩) (o:=o) Tn oT.2
  have gm:∀ c ob,n.X.G c=some ob→(n.X.jK T o).G c=some ob:=λc ob e=>by
   show(if c=T then some o else n.X.G c)=some ob
   rw[if_neg];exact e
   rintro rfl;rw[oT.2] at e;exact bR e
  refine h ⟨n.X.jK T o,h'⟩ tk' v iw kK ⟨r.it,r.le.trans ⟨rfl,gm,λz_ h=>h,λz_ z_=>rfl⟩,st,λb hb=>?_,⟨r.fresh.new,r.fresh.own,λb hb=>?_⟩,r.offs⟩ ?_ ⟨⟨rfl,gm,λz_ h=>h,λz_ z_=>rfl⟩,λb ob hb e=>⟨kp b ob hb e,rfl,?_⟩⟩
  ·exact(Jm b hb).imp (λ⟨o',e⟩=>⟨o',gm b o' e⟩) id
  ·show(if b=T then some o else n.X.G b)=none
   rw[if_neg];exact r.fresh.G b hb
   rintro rfl
   rcases r.kept b (r.it.sub b hb) with ⟨o',g⟩ | ⟨_,⟨o',ho⟩,_⟩
   ·rw[r.fresh.G b hb] at g;exact bR g
   ·rw[nT] at ho;exact bR ho
  ·have e:=r.le.P
   show cy n.X.P _ v x
   rw[e]
   refine hv.mono λc ob q=>?_
   show(if c=T then some o else n.X.G c)=some ob
   split
   ·rename_i z;rw[if_pos z] at q;exact q
   ·rename_i z;rw[if_neg z] at q;exact r.le.G c ob q
  ·show(if b=T then some o else n.X.G b)=n.X.G b
   rw[if_neg]
   rintro rfl;rw[nT] at e;exact bR e
end
section
variable{prog:cP}{w:cE}{A:bC}{E:af→ah→Prop}{R:j6→ah→Prop}{s:ah}
theorem K2{target:aJ}{it:af}{body:List dO}{env:Env}(I:Nat→ah→Prop)
  (turn:∀ n s,I n s→aA (model prog w) A (pyNext it) (λr s₁=>match r with
    | none=>R (.ok .next) s₁
    | some v=>aA (model prog w) A (letOwnedTupleGo target it v) (λz_ s₂=>aA (model prog w) A (assign target env v) (λz_ s₃=>aA (model prog w) A (execs body env) (λf s₄=>match f with
      | .next | .cont=>∃ m,m<n∧I m s₄
      | .brk=>R (.ok .next) s₄
      | .ret v=>R (.ok (.ret v)) s₄) (noted (model prog w) A env λe s'=>R (.error e) s') s₃) (noted (model prog w) A env λe s'=>R (.error e) s') s₂) (noted (model prog w) A env λe s'=>R (.error e) s') s₁)
    (noted (model prog w) A env λe s'=>R (.error e) s') s)
  (n:Nat)(h:I n s):dF (model prog w) A (.forLoop target it body [] env) R s:=by
 induction n using Nat.strongRecOn generalizing s with
 | ind n ih=>
  refine gJ rfl ?_
  show aA _ A ((forTurn target it body [] env).onRaise (λx=>do noteFrame x env;theTreesLotGoes x)) _ _ s
  refine xh ?_
  show aA _ A (do
   standAt target.pos
   match ←(pyNext it).onRaise (λz_=>standAt {target.pos with line:=0}) with
   | none=>again (.block [] env)
   | some v=>
    letOwnedTupleGo target it v
    assign target env v
    match ←execs body env with
    | .next | .cont=>again (.forLoop target it body [] env)
    | .brk=>pure (.done .next)
    | .ret v=>pure (.done (.ret v))) _ _ s
  refine ai (bG (ai (iL (lu (turn n s h) (λr s₁ h₁=>?_) λe s₁ h₁=>bG h₁))))
  cases r with
  | none=>exact aD ⟨rfl,rfl,FE (aD h₁)⟩
  | some v=>
   refine ai (aN h₁ λz_ s₂ h₂=>ai (aN h₂ λz_ s₃ h₃=>ai (aN h₃ λf s₄ h₄=>?_)))
   cases f with
   | next=>obtain⟨m,hm,hI⟩:=h₄;exact aD ⟨rfl,rfl,ih m hm hI⟩
   | cont=>obtain⟨m,hm,hI⟩:=h₄;exact aD ⟨rfl,rfl,ih m hm hI⟩
   | brk=>exact aD h₄
   | ret v=>exact aD h₄
end
noncomputable def Mc(k:St→Prop)(Q:Res cj→St→Prop)(r:Res Unit)(σ:St):Prop:=match r with
 | .ok _=>k σ
 | .exc t=>Q (.exc t) σ
noncomputable def forM(ih:Ih)(target:aJ)(body:List dO)(xs:List PV):M cj:=λσ Q=>∃ inv:Nat→St→Prop,inv 0 σ∧
 (∀ i σ x,xs[i]? =some x→inv i σ→ih.asg target (.pv x) σ (Mc (λσ₁=>ih.exs body σ₁ (vU (λσ₂=>∃ σ₃,Sub σ₂ σ₃∧inv (i+1) σ₃) Q)) Q))∧(∀ σ,inv xs.length σ→Q (.ok .next) σ)
section
variable{S:Sx}{f:Fx}{sc:List (Str×aE)}{P:Pg}{ih:Ih}{n n₀:Snap}
theorem AE(hI:dX S f ih)(hf:f.Ok){L:au}(hL:f.env.frame=some L)(ho:∃ outer,f.fr=f.env::outer){target:aJ}{body:List dO}{xs:List PV}{I:au}{X₀:Rc}{fp wr:List au}{Sp:Nat→b9→Prop}{σ:St}
  (hoff:∀ a ∈ f.cZ,∃ o,n₀.h.get? a=some o)(r:Runs S f target I xs X₀ fp wr Sp n₀ n 0)(ev:dB f.own f.cZ f.cl n₀ n)(rel:bu S f σ n){Q:Res cj→St→Prop}(hm:forM ih target body xs σ Q){g d tk os}{Q':Flow→ah→Prop}{E':af→ah→Prop}
  (P':∀ n' tk' σ',dB f.own f.cZ f.cl n₀ n'→bu S f σ' n'→(∀ b,Q (.ok b) σ'→∀ a,dc n'.X a b→Q' a ⟨n'.h,g,d,tk',os⟩)∧(∀ t,Q (.exc t) σ'→∀ e,eN f.L t n₀.h e n'→E' (.ref e) ⟨n'.h,g,d,tk',os⟩)):
  aA (model S.prog S.w) f.A (runOwn (.forLoop target (.ref I) body [] f.env) f.env) Q' E' ⟨n.h,g,d,tk,os⟩:=by
 obtain⟨inv,i0,turn,fin⟩:=hm
 refine p5 rfl ?_
 have eA:f.A.mark none=f.A:=rfl
 rw[eA]
 have exc:∀ n' tk' σ' t e,dB f.own f.cZ f.cl n₀ n'→bu S f σ' n'→Q (.exc t) σ'→eN f.L t n₀.h e n'→noted (model S.prog S.w) f.A f.env (λx s'=>aA (model S.prog S.w) f.A (jy x f.env) (λz_ s''=>E' x s'') E' s') (.ref e) ⟨n'.h,g,d,tk',os⟩:=by
  exact λn' tk' σ' t e ev rel' hq fl=>y_ hf hL ho hoff ev rel' fl λh' ev' vM GV=>(P' _ tk' σ' ev' vM).2 t hq e GV
 refine K2 (λk s=>∃ n' σ' i tk',s=⟨n'.h,g,d,tk',os⟩∧dB f.own f.cZ f.cl n₀ n'∧bu S f σ' n'∧inv i σ'∧Runs S f target I xs X₀ fp wr Sp n₀ n' i∧i+k=xs.length) ?_ xs.length ⟨n,σ,0,tk,rfl,ev,rel,i0,r,by exact eG _⟩
 rintro k s ⟨n₁,σ₁,i,tk₁,rfl,j7,i8,oV,r₁,hk⟩
 cases hx:xs[i]? with
 | none=>
  have hi:i=xs.length:=by
   have:=List.getElem?_eq_none_iff.mp hx
   exact Nat.le_antisymm (aa (aT i k) (aQ hk)) this
  subst hi
  refine bS (r₁.it.done _ _ _ r₁.at_ λh' tk' kp=>?_)
  have iw:=j7.wrote (f:=f) r₁.fresh kp
  have kK:=i8.wrote r₁.fresh r₁.off (e9 f) kp
  exact(P' _ tk' σ₁ iw kK).1 _ (fin σ₁ oV) _ .next
 | some x=>
  have hi:i<xs.length:=(bW.mp hx).1
  refine bS (wpAny_mono (r₁.next hx j7 i8 (E:=noted (model S.prog S.w) f.A f.env λe s'=>aA (model S.prog S.w) f.A (jy e f.env) (λz_ s''=>E' e s'') E' s') (Q:=λv s₂=>aA (model S.prog S.w) f.A (assign target f.env v) (λz_ s₃=>aA (model S.prog S.w) f.A (execs body f.env) (λfl s₄=>match fl with
      | .next | .cont=>∃ m,m<k∧∃ n' σ' i tk',s₄=⟨n'.h,g,d,tk',os⟩∧dB f.own f.cZ f.cl n₀ n'∧bu S f σ' n'∧inv i σ'∧Runs S f target I xs X₀ fp wr Sp n₀ n' i∧i+m=xs.length
      | .brk=>Q' .next s₄
      | .ret v=>Q' (.ret v) s₄) (noted (model S.prog S.w) f.A f.env λe s'=>aA (model S.prog S.w) f.A (jy e f.env) (λz_ s''=>E' e s'') E' s') s₃) (noted (model S.prog S.w) f.A f.env λe s'=>aA (model S.prog S.w) f.A (jy e f.env) (λz_ s''=>E' e s'') E' s') s₂)
    λn₂ tk₂ v oj gV r₂ hv z_=>?_) (λrr s₂ h₂=>?_) λz_ z_ x=>x)
  ·refine hI.asg target v (.pv x) n₂ (.pv hv) σ₁ _ gV (turn i σ₁ x hx oV) g d tk₂ os _ _ λn₃ tk₃ σ₃ lJ iJ=>⟨λb hq b' hb=>?_,λt hq e fl=>?_⟩
   ·have EH:=oj.trans lJ
    have Le:=r₂.step gV iJ lJ
    refine hI.exs body n₃ σ₃ _ iJ hq g d tk₃ os _ _ λn₄ tk₄ σ₄ pO ju=>⟨λfl hq GV hfl=>?_,λt hq e ER=>?_⟩
    ·have wJ:=EH.trans pO
     have Gn:=Le.step iJ ju pO
     cases hfl with
     | next=>obtain⟨σ₅,hs,hq⟩:=hq;exact⟨k-1,by exact(kpos hk hi).1,n₄,σ₅,i+1,tk₄,rfl,wJ,ju.sub hs,hq,Gn,by exact(kpos hk hi).2⟩
     | cont=>obtain⟨σ₅,hs,hq⟩:=hq;exact⟨k-1,by exact(kpos hk hi).1,n₄,σ₅,i+1,tk₄,rfl,wJ,ju.sub hs,hq,Gn,by exact(kpos hk hi).2⟩
     | brk=>exact(P' n₄ tk₄ σ₄ wJ ju).1 _ hq _ .next
     | ret hv=>exact(P' n₄ tk₄ σ₄ wJ ju).1 _ hq _ (.ret hv)
    ·exact exc n₄ tk₄ σ₄ t e (EH.trans pO) ju hq (ER.older EH.live)
   ·exact exc n₃ tk₃ σ₃ t e (oj.trans lJ) iJ hq (fl.older oj.live)
  ·obtain⟨v,rfl,h₂⟩:=h₂
   exact bS h₂
end
noncomputable def intsOf(l:Bool):List UInt8→List PV
 | []=>[]
 | c::r=>.int l (c.toNat:Int)::intsOf l r
theorem qE(l:Bool):∀ b:List UInt8,intsOf l b=b.map λc=>PV.int l (c.toNat:Int)
 | []=>rfl
 | c::r=>by unfold intsOf;rw[qE l r];rfl
noncomputable def AO(e:aJ):Bool:=aX e.ctorIdx 25
section
variable{S:Sx}{f:Fx}{sc:List (Str×aE)}{P:Pg}{ih:Ih}{n n₀:Snap}
structure Laid(S:Sx)(f:Fx)(target:aJ)(n:Snap)(h':b9)(I:au)(xs:List PV):Prop where
 kp:∀ b o,n.h.get? b=some o→h'.get? b=some o
 run:∃ fp wr Sp,It S.prog S.w f.A target I xs n.X.P n.X.G fp wr Sp∧Sp 0 h'∧(∀ b ∈ wr,n.h.get? b=none)∧(∀ b ∈ fp,(∃ o,n.X.G b=some o)∨n.h.get? b=none∧∃ o,h'.get? b=some o)
theorem Laid.runs{σ:St}(rel:bu S f σ n){target:aJ}{h':b9}{I:au}{xs:List PV}(l:Laid S f target n h' I xs):
  dB f.own f.cZ f.cl n ⟨n.X,h'⟩∧bu S f σ ⟨n.X,h'⟩∧∃ fp wr Sp,Runs S f target I xs n.X fp wr Sp n ⟨n.X,h'⟩ 0:=by
 have ev:dB [] f.cZ [] n ⟨n.X,h'⟩:=dB.grow l.kp
 have rel':bu S f σ ⟨n.X,h'⟩:=rel.pN ev (rel.inv.grow l.kp) rel.dom rfl rfl
 refine E3_4 l.run λfp wr Sp it st nw OF=>?_
 have lives:=rel.lives
 have Ds:∀ b,n.h.get? b=none→b ∉ f.cZ∧b ∉ f.own:=λb hb=>by
  constructor
  ·intro q;obtain⟨o,e⟩:=lives b (bN.mpr (.inl q));rw[hb] at e;exact bR e
  ·intro q;obtain⟨o,e⟩:=lives b (bN.mpr (.inr q));rw[hb] at e;exact bR e
 refine⟨ev.wide,rel',fp,wr,Sp,it,.refl _,st,λb hb=>(OF b hb).imp id λ⟨h1,h2⟩=>⟨(aZ rel.inv h1).1,h2,Ds b h1⟩,⟨nw,λb hb=>(aZ rel.inv (nw b hb)).1,λb hb=>(aZ rel.inv (nw b hb)).2⟩,λb hb=>Ds b (nw b hb)⟩
noncomputable def Cont{α β:Type}(S:Sx)(f:Fx)(target:aJ)(R:Rc→α→β→Prop)(rest:af→PT α)(k:List PV→M β)(n:Snap):Prop:=
 ∀ xs I h' σ Q,bu S f σ n→Laid S f target n h' I xs→k xs σ Q→∀ g d tk os (Q':α→ah→Prop) (E':af→ah→Prop),
   (∀ n' tk' σ',dB f.own f.cZ f.cl n n'→bu S f σ' n'→(∀ b,Q (.ok b) σ'→∀ a,R n'.X a b→Q' a ⟨n'.h,g,d,tk',os⟩)∧(∀ t,Q (.exc t) σ'→∀ e,eN f.L t n.h e n'→E' (.ref e) ⟨n'.h,g,d,tk',os⟩))→
   rest (.ref I) Q' E' ⟨h',g,d,tk,os⟩
noncomputable def NX{β:Type}(target:aJ)(v:MV)(k:List PV→M β):M β:=
 gG v (λvs=>k vs) (fP v (λl b=>M.when (jD target) (k (intsOf l b))) M.no)
noncomputable def I7{β:Type}(target:aJ)(T:String)(vs:List MV)(kw:List (Str×MV))(k:List PV→M β):M β:=
 if T="enumerate" then args1 vs kw (λv=>fP v (λl b=>M.when (AO target) (k (s6 l 0 b))) M.no) M.no
 else if T="zip" then args2 vs kw (λa b=>gG a (λa=>gG b (λb=>M.when (AO target) (k (rT a b))) M.no) M.no) M.no
 else if T="range" then args1 vs kw (λv=>f6 v (λz_ i=>M.when (jD target) (M.need (decide (0≤i)&&aO i.natAbs 1099511627776) (k (tF false 0 i.toNat)))) M.no) M.no
 else M.no
theorem vD{t:aJ}(h:AO t=true):∃ es k p,t= .Tuple es k p:=by
 cases t <;> first | exact⟨_,_,_,rfl⟩ | exact gy h
theorem x_(h:b9)(k:Nat):h.get? (h.objs.size+k)=none:=by
 cases q:h.get? (h.objs.size+k) with
 | none=>rfl
 | some o=>exact absurd (bB q) (kI.mpr (aT _ _))
section
variable{α β:Type}{R:Rc→α→β→Prop}{rest:af→PT α}{k:List PV→M β}{target:aJ}
theorem Lg(hh:f.A.handled=none){v:af}{m:MV}(hv:aW n.X v m)(hk:Cont S f target R rest k n):Sd S f (λQ E s=>WP S f (pyIter v) (λit s₂=>rest it Q E s₂) E s) R (NX target m k) n:=by
 refine gZ (T:=λv Q E s=>WP S f (pyIter v) (λit s₂=>rest it Q E s₂) E s) hv (λvs a its j gg r=>?_) (fE (T:=λv Q E s=>WP S f (pyIter v) (λit s₂=>rest it Q E s₂) E s) hv (λl b t=>bU λht=>?_) .no)
 ·intro σ Q rel hm g d tk os Q' E' P'
  have gl:=rel.inv.sub _ _ gg
  have hl:n.h.IsList a its.toArray:=⟨_,gl,rfl,j,rfl⟩
  refine bS (wpAny_pyIter_list (s:=⟨n.h,g,d,tk,os⟩) hl (hk vs n.h.objs.size _ σ Q rel ⟨λb o e=>aq _ e,[n.h.objs.size,a],[n.h.objs.size],_,It.list hh (λq=>?_) r,⟨⟨_,aL _ rfl,rfl,rfl⟩,_,aq _ gl,rfl,j,rfl⟩,all_cons (bJ _) all_nil,all_cons (.inr ⟨bJ _,_,aL _ rfl⟩) (all_cons (.inl ⟨_,gg⟩) all_nil)⟩ hm g d tk os Q' E' P'))
  rw[q,bJ] at gl;exact bR gl
 ·intro σ Q rel hm g d tk os Q' E' P'
  rw[qE] at hm
  exact bS (KBw.pyIter_bytes (s:=⟨n.h,g,d,tk,os⟩) (hk _ n.h.objs.size _ σ Q rel ⟨λb o e=>aq _ e,[n.h.objs.size],[n.h.objs.size],_,It.bytes hh ht,⟨_,aL _ rfl,rfl,rfl⟩,all_cons (bJ _) all_nil,all_cons (.inr ⟨bJ _,_,aL _ rfl⟩) all_nil⟩ hm g d tk os Q' E' P'))
theorem Gf(k:Int):Builtin.Range.rangeSize 0 k 1=((k.toNat:Nat):Int):=by rw[rangeSize_one];split <;> omega
theorem HH(hh:f.A.handled=none){T:String}{vs:List af}{ms:List MV}{kvs:List (Str×af)}{kw:List (Str×MV)}(hv:bY n.X vs ms)(hkw:dQ n.X kvs kw)(hk:Cont S f target R rest k n):
  Sd S f (λQ E s=>WP S f (call (.type T) vs kvs) (λx s'=>WP S f (pyIter x) (λit s₂=>rest it Q E s₂) E s') E s) R (I7 target T ms kw k) n:=by
 refine kE (λe=>?_) (kE (λe=>?_) (kE (λe=>?_) .no))
 ·cases e
  refine iz (T:=λvs kvs Q E s=>WP S f (call (.type "enumerate") vs kvs) (λx s'=>WP S f (pyIter x) (λit s₂=>rest it Q E s₂) E s') E s) hv hkw λv m h1=>?_
  refine fE (T:=λv Q E s=>WP S f (call (.type "enumerate") [v] []) (λx s'=>WP S f (pyIter x) (λit s₂=>rest it Q E s₂) E s') E s) h1 (λl b t=>bU λht=>?_) .no
  refine E3_1 (vD ht) λes kk pp rU=>?_
  subst rU
  intro σ Q rel hm g d tk os Q' E' P'
  refine bS (mK (s:=⟨n.h,g,d,tk,os⟩) λh' he hit hsz kp=>?_)
  have hne:n.h.objs.size+1≠n.h.objs.size:=Nat.succ_ne_self _
  have it:=It.enum (prog:=S.prog) (w:=S.w) hh (elts:=es) (k:=kk) (pos:=pp) hne (l:=l) (b:=b) (t:=t) (P:=n.X.P) (G:=n.X.G)
  have st:(∃ v,IsEnum h' (n.h.objs.size+1) n.h.objs.size 0 v)∧iA h' n.h.objs.size b.toArray t 0:=⟨⟨_,he⟩,hit⟩
  exact bS (it.self 0 ⟨h',g,d,tk,os⟩ _ _ st (hk _ _ h' σ Q rel ⟨kp,_,_,_,it,st,all_cons (x_ _ 1) (all_cons (bJ _) all_nil),all_cons (.inr ⟨x_ _ 1,_,he⟩) (all_cons (.inr ⟨bJ _,hit.elim λo ho=>⟨o,ho.1⟩⟩) all_nil)⟩ hm g d tk os Q' E' P'))
 ·cases e
  refine t8 (T:=λvs kvs Q E s=>WP S f (call (.type "zip") vs kvs) (λx s'=>WP S f (pyIter x) (λit s₂=>rest it Q E s₂) E s') E s) hv hkw λv m w o h1 h2=>?_
  refine gZ (T:=λv Q E s=>WP S f (call (.type "zip") [v,w] []) (λx s'=>WP S f (pyIter x) (λit s₂=>rest it Q E s₂) E s') E s) h1 (λT9 a1 AP j1 g1 r1=>?_) .no
  refine gZ (T:=λw Q E s=>WP S f (call (.type "zip") [.ref a1,w] []) (λx s'=>WP S f (pyIter x) (λit s₂=>rest it Q E s₂) E s') E s) h2 (λUa a2 its2 j2 g2 r2=>bU λht=>?_) .no
  refine E3_1 (vD ht) λes kk pp rU=>?_
  subst rU
  intro σ Q rel hm g d tk os Q' E' P'
  have hl1:n.h.IsList a1 AP.toArray:=⟨_,rel.inv.sub _ _ g1,rfl,j1,rfl⟩
  have hl2:n.h.IsList a2 its2.toArray:=⟨_,rel.inv.sub _ _ g2,rfl,j2,rfl⟩
  refine bS (call_zip_2 (s:=⟨n.h,g,d,tk,os⟩) hl1 hl2 λh' hz hTI hTO hi1 hi2 hsz kp=>?_)
  have D:=zipApart_new (bB (rel.inv.sub _ _ g1)) (bB (rel.inv.sub _ _ g2))
  have it:=It.zip (prog:=S.prog) (w:=S.w) hh (elts:=es) (k:=kk) (pos:=pp) D r1 r2
  have st:IsZip h' (n.h.objs.size+4) (n.h.objs.size+2) (n.h.objs.size+3) .none∧IsPair h' (n.h.objs.size+2) (.ref n.h.objs.size) (.ref (n.h.objs.size+1))∧(∃ a b,IsPair h' (n.h.objs.size+3) a b)∧h'.IsListIter n.h.objs.size a1 0∧h'.IsListIter (n.h.objs.size+1) a2 0∧h'.IsList a1 AP.toArray∧h'.IsList a2 its2.toArray:=
   ⟨hz,hTI,⟨_,_,hTO⟩,hi1,hi2,hl1.at (λo e=>kp _ o e),hl2.at (λo e=>kp _ o e)⟩
  exact bS (it.self 0 ⟨h',g,d,tk,os⟩ _ _ st (hk _ _ h' σ Q rel ⟨kp,_,_,_,it,st,all_cons (x_ _ 4) (all_cons (x_ _ 3) (all_cons (bJ _) (all_cons (x_ _ 1) all_nil))),
   all_cons (.inr ⟨x_ _ 4,_,hz⟩) (all_cons (.inr ⟨x_ _ 2,_,hTI⟩) (all_cons (.inr ⟨x_ _ 3,_,hTO⟩) (all_cons (.inr ⟨bJ _,hi1.elim λo ho=>⟨o,ho.1⟩⟩) (all_cons (.inr ⟨x_ _ 1,hi2.elim λo ho=>⟨o,ho.1⟩⟩) (all_cons (.inl ⟨_,g1⟩) (all_cons (.inl ⟨_,g2⟩) all_nil))))))⟩ hm g d tk os Q' E' P'))
 ·cases e
  refine iz (T:=λvs kvs Q E s=>WP S f (call (.type "range") vs kvs) (λx s'=>WP S f (pyIter x) (λit s₂=>rest it Q E s₂) E s') E s) hv hkw λv m h1=>?_
  refine eu (T:=λv Q E s=>WP S f (call (.type "range") [v] []) (λx s'=>WP S f (pyIter x) (λit s₂=>rest it Q E s₂) E s') E s) h1 (λl i t=>bU λht=>.need λhb=>?_) .no
  refine A2 (aj.mp hb) λh0 hz=>?_
  have hz:=gM hz
  have h0:=of_decide_eq_true h0
  intro σ Q rel hm g d tk os Q' E' P'
  refine bS (call_range_1 (s:=⟨n.h,g,d,tk,os⟩) ?_)
  have hr:=IsRange.new n.h 0 i 1 tk t (tk+1)
  have small:Builtin.Range.small 0 i 1=true:=small_one (by decide) (by decide) (bF (by decide) h0) (by omega)
  have Oc:(n.h.push {cls:=.type "range",data:=.fields #[.int 0 tk,.int i t,.int 1 (tk+1)]}).get? ((n.h.push {cls:=.type "range",data:=.fields #[.int 0 tk,.int i t,.int 1 (tk+1)]}).objs.size)=none:=bJ _
  have nn:n.h.get? ((n.h.push {cls:=.type "range",data:=.fields #[.int 0 tk,.int i t,.int 1 (tk+1)]}).objs.size)=none:=by rw[eY];exact x_ _ 1
  refine bS (wpAny_pyIter_range (s:=⟨_,g,d,tk+1+1,os⟩) hr small (hk _ _ _ σ Q rel ⟨λb o e=>aq _ (aq _ e),[_],[_],_,It.range hh ht,?_,all_cons nn all_nil,all_cons (.inr ⟨nn,_,aL _ rfl⟩) all_nil⟩ hm g d _ os Q' E' P'))
  have g1:=aL (n.h.push {cls:=.type "range",data:=.fields #[.int 0 tk,.int i t,.int 1 (tk+1)]}) (o:={cls:=.type "range_iterator",data:=.fields #[rawInt 0,rawInt (Builtin.Range.rangeSize 0 i 1),rawInt 1]}) rfl
  rw[Gf] at g1 ⊢
  simpa using g1
end
theorem Ec{α β:Type}{R:Rc→α→β→Prop}{U:af→PT α}(hI:dX S f ih){pos:Pos}{g:af}{first:List af}{es:List aJ}{ks:List jQ}{K:List MV→List (Str×MV)→M β}(ha:dJ es=true)(hk:gU ks=true)
  (hg:∀ n',n.X.le n'.X→(∃ σ,bu S f σ n')→∃ k,cH (model S.prog S.w) n'.h (keeperOf g) k)
  (hc:∀ n',dB f.own f.cZ f.cl n n'→∀ vs args kvs kw,bY n'.X vs args→dQ n'.X kvs kw→Sd S f (λQ E s=>WP S f (call g (first++vs) kvs) (λx s'=>U x Q E s') E s) R (K args kw) n'):
  Sd S f (λQ E s=>WP S f (callWith pos g first (backTo pos (starEach es f.env)) (backToKw pos (keywordEach ks f.env))) (λx s'=>U x Q E s') E s) R ((wK ih es).andThen λvs=>(AU ih ks).andThen λkv=>K vs kv) n:=by
 refine Sd.imp (T:=λQ E s=>aA (model S.prog S.w) f.A (spliced (backTo pos (starEach es f.env))) (λvs s₁=>aA (model S.prog S.w) f.A (evalAll ((backToKw pos (keywordEach ks f.env)).map (·.2))) (λkv s₂=>
   (∃ k,cH (model S.prog S.w) s₂.heap (keeperOf g) k)∧aA (model S.prog S.w) f.A (call g (first++vs) (((backToKw pos (keywordEach ks f.env)).filterMap (·.1)).zip kv)) (λx s'=>U x Q E s') E s₂) E s₁) E s) ?_ (λQ E s h=>B3 ha hk h)
 refine Sd.bind (R':=LC) (AA hI pos es n ha) λn1 jf vs args hvs=>?_
 refine Sd.bind (U:=λkvs Q E s=>(∃ k,cH (model S.prog S.w) s.heap (keeperOf g) k)∧aA (model S.prog S.w) f.A (call g (first++vs) kvs) (λx s'=>U x Q E s') E s) (R':=LZ) (Ff hI pos ks n1 hk) λn2 iw kvs kw hkv=>?_
 intro σ Q rel hm g' d tk os Q' E' P'
 exact⟨hg n2 (jf.le.trans iw.le) ⟨σ,rel⟩,hc n2 (jf.trans iw) vs args kvs kw (hvs.mono iw.le) hkv σ Q rel hm g' d tk os Q' E' P'⟩
theorem qB{e:aJ}(h:lW e=false)(env:Env)(x:af):foldedSetIterable e env x=pure x:=by
 cases e <;> first | rfl | (cases h;done)
theorem ES{target:aJ}{body:List dO}{I:au}{xs:List PV}{σ:St}(hI:dX S f ih)(hf:f.Ok){L:au}(hL:f.env.frame=some L)(ho:∃ outer,f.fr=f.env::outer)(rel:bu S f σ n){h':b9}(l:Laid S f target n h' I xs)
  {Q:Res cj→St→Prop}(hm:forM ih target body xs σ Q){g d tk os}{Q':Flow→ah→Prop}{E':af→ah→Prop}
  (P':∀ n' tk' σ',dB f.own f.cZ f.cl n n'→bu S f σ' n'→(∀ b,Q (.ok b) σ'→∀ a,dc n'.X a b→Q' a ⟨n'.h,g,d,tk',os⟩)∧(∀ t,Q (.exc t) σ'→∀ e,eN f.L t n.h e n'→E' (.ref e) ⟨n'.h,g,d,tk',os⟩)):
  aA (model S.prog S.w) f.A (runOwn (.forLoop target (.ref I) body [] f.env) f.env) Q' E' ⟨h',g,d,tk,os⟩:=by
 refine fO λzz=>?_
 obtain⟨ev,rel',fp,wr,Sp,r⟩:=l.runs rel
 refine zz ?_
 exact AE hI hf hL ho (λb hb=>(rel.off b hb).2.2) r ev rel' hm P'
end
section
variable{M:g6}{A:bC}{E:af→ah→Prop}{s:ah}{env:Env}
noncomputable def jX(M:g6)(A:bC)(E:af→ah→Prop)(use:Option (af→Sem Unit))(Q:af→ah→Prop)(acc:af)(C:au)(r:j6)(s':ah):Prop:=
 match r,use with
 | .ok _,none=>∃ m,s'.heap.Ns C m∧∀ h',fM C s'.heap h'→Q acc {s' with heap:=h'}
 | .ok _,some u=>aA M A (u acc) (λz_ s''=>∃ m,s''.heap.Ns C m∧∀ h',fM C s''.heap h'→Q .none {s'' with heap:=h'}) E s'
 | .error x,_=>False
theorem Fy{e:aJ}{scope:nY}{pos:Pos}{newAcc first:Sem af}{g:Comprehension}{gs:List Comprehension}{cl:List (Str×au)}{use:Option (af→Sem Unit)}
  {Q:af→ah→Prop}(Ky:∀ it acc cenv,iY (.compStart e 0 it acc cenv)=false)
  (hcl:clausesOf e=g::gs)(hs:∀ x,foldedSetIterable g.iter env x=pure x)(hclos:closureFor scope env=pure cl)
  (hkind:scope.kind= .function)(hnames:∀ x ∈ scope.names,x.2= .local→scope.names.lookup x.1=some .local)
  (h:aA M A first (λx s₁=>aA M A (pyIter x) (λit s₂=>aA M A newAcc (λacc s₃=>
   aA M A (newFunctionEnv scope env.globals cl [] env.qual none .none (some env)) (λcenv s₄=>
    dF M A (.compStart e 0 it acc {cenv with scope:=relabel scope env}) (jX M A E use Q acc cenv.locals) s₄) E s₃) E s₂) E s₁) E s):
  aA M A (comprehension e scope env pos newAcc false first use) Q E s:=by
 unfold comprehension
 rw[hclos,hcl]
 refine ai (aN h λx s₁ h₁=>ai (bG (ai (n_eq (hs x) (ai (aM (aN h₁ λit s₂ h₂=>?_)))))))
 have IA:∀ {k:PUnit→Sem af},aA M A (k ()) Q E s₂→aA M A (if use.isSome=true then(standAt e.pos>>=k) else k ()) Q E s₂:=λhk=>by
  split
  ·exact ai (bG hk)
  ·exact hk
 refine IA (ai (aN h₂ λacc s₃ h₃=>ai (aD (ai (aN h₃ λcenv s₄ h₄=>?_)))))
 dsimp only
 have hv:∀ x ∈ (scope.names.filter λx=>(x.2 == .local||x.2 == .cell)&&x.1 != (".0":Str)).reverse,x.2= .local→
   Env.kindOf {cenv with scope:=relabel scope env} x.1=some .local:=λx hx hl=>lookup_relabel_local (hnames x (List.mem_filter.mp (cI.mp hx)).1 hl)
 have hv':∀ x ∈ (scope.names.filter λx=>(x.2 == .local||x.2 == .cell)&&x.1 != (".0":Str)).reverse.drop 1++(scope.names.filter λx=>(x.2 == .local||x.2 == .cell)&&x.1 != (".0":Str)).reverse.take 1,
   x.2= .local→Env.kindOf {cenv with scope:=relabel scope env} x.1=some .local:=λx hx hl=>by
  rcases bN.mp hx with h1 | h1
  ·exact hv x (List.mem_of_mem_drop h1) hl
  ·exact hv x (List.mem_of_mem_take h1) hl
 refine aM (ai (qJ (aM (Jr (Ky _ _ _) (ni h₄ λr s' hr=>?_)))))
 cases r with
 | ok f=>
  cases use with
  | none=>
   refine E1_2 hr λm hn hr=>?_
   exact ai (aM (bS (wpAny_comp_letGo (cenv:={cenv with scope:=relabel scope env}) hkind _ s' m hv hn λh' m' z_ hs'=>aD (hr h' hs'))))
  | some u=>
   refine ai (tQ (ai (aM (aN hr λz_ s'' hr'=>?_))))
   refine E1_2 hr' λm hn hr'=>?_
   exact ai (bS (wpAny_comp_letGo (cenv:={cenv with scope:=relabel scope env}) hkind _ s'' m hv' hn λh' m' z_ hs'=>aD (hr' h' hs')))
 | error x=>cases use <;> exact hr.elim
end
section
variable{prog:cP}{w:cE}{A:bC}{E:af→ah→Prop}{R:j6→ah→Prop}{s:ah}
theorem xq{elt target iter:aJ}{ifs:List aJ}{scope:nY}{pos:Pos}{it acc:af}{env:Env}
  (h0:dF (model prog w) A (.compLoop (.ListComp elt [⟨target,iter,ifs,0⟩] scope pos) 0 it acc env) R s)
  (h:aA (model prog w) A (pyIter it) (λit' s'=>dF (model prog w) A (.compLoop (.ListComp elt [⟨target,iter,ifs,0⟩] scope pos) 0 it' acc env) R s') (λz_ z_=>False) s):
  dF (model prog w) A (.compStart (.ListComp elt [⟨target,iter,ifs,0⟩] scope pos) 0 it acc env) R s:=by
 refine gJ rfl ?_
 show aA _ _ ((compStart (.ListComp elt [⟨target,iter,ifs,0⟩] scope pos) 0 it acc env).onRaise (λx=>do noteFrame x env;standAt theWindowsPlace)) _ _ s
 refine iL (lu (E:=λz_ z_=>False) ?_ (λz_ z_ q=>q) λz_ z_ h=>h.elim)
 unfold compStart
 show aA _ _ (ask>>=_) _ _ s
 refine ai (bS (wpAny_askSetting ?_))
 refine Qq (λz_=>?_) λz_=>?_
 ·first
   | exact ai (aD (aD ⟨rfl,rfl,h0⟩))
   | exact aD ⟨rfl,rfl,h0⟩
 ·first
   | exact ai (tQ (ai (bG (ai (aN h λit' s' h'=>aD ⟨rfl,rfl,h'⟩)))))
   | (refine ai (tQ ?_);show aA _ _ (standAt iter.pos>>=_) _ _ s;exact ai (bG (ai (aN h λit' s' h'=>aD ⟨rfl,rfl,h'⟩))))
noncomputable def su(ifs:List aJ)(env:Env):Sem Bool:=forIn ifs true λc r=>if r=true then do let ok ←isTrue c env (eval c env);pure (u7 ok) else pure (u7 r)
theorem zp{elt target iter:aJ}{ifs:List aJ}{scope:nY}{pos:Pos}{it acc:af}{env:Env}(I:Nat→ah→Prop)
  (turn:∀ n s,I n s→aA (model prog w) A (pyNext it) (λr s₁=>match r with
   | none=>R (.ok .next) s₁
   | some v=>aA (model prog w) A (letOwnedTupleGo target it v) (λz_ s₂=>aA (model prog w) A (assign target env v) (λz_ s₃=>
     aA (model prog w) A (su ifs env) (λok s₄=>
      if ok=true then aA (model prog w) A (eval elt env) (λx s₅=>
       aA (model prog w) A (call (.builtin "list.append") [acc,x]) (λz_ s₆=>∃ m,m<n∧I m s₆) (λz_ z_=>False) s₅) (λz_ z_=>False) s₄
      else∃ m,m<n∧I m s₄) (λz_ z_=>False) s₃) (λz_ z_=>False) s₂) (λz_ z_=>False) s₁) (λz_ z_=>False) s)
  (n:Nat)(h:I n s):dF (model prog w) A (.compLoop (.ListComp elt [⟨target,iter,ifs,0⟩] scope pos) 0 it acc env) R s:=by
 refine Cm rfl rfl I (λn s hI=>?_) n h
 show aA _ A ((compTurn (.ListComp elt [⟨target,iter,ifs,0⟩] scope pos) 0 it acc env).onRaise (λx=>do noteFrame x env;theTreesLotGoes x)) _ _ s
 refine iL (lu (E:=λz_ z_=>False) ?_ (λz_ z_ q=>q) λz_ z_ h=>h.elim)
 rw[compTurn_list]
 refine ai (bG (ai (aN (turn n s hI) λr s₁ h₁=>?_)))
 cases r with
 | none=>exact aD h₁
 | some v=>
  refine ai (aN h₁ λz_ s₂ h₂=>ai (aN h₂ λz_ s₃ h₃=>ai (aN h₃ λok s₄ h₄=>?_)))
  cases ok with
  | false=>exact aD ⟨rfl,h₄⟩
  | true=>
   exact ai (ai (aN h₄ λx s₅ h₅=>ai (aN h₅ λz_ s₆ h₆=>aD (aD ⟨rfl,h₆⟩))))
end
noncomputable def gx(sc:List (Str×aE))(locs:List (Str×MV))(names:List (Str×aE)):Option (List (Str×MV)):=bA (motive:=λz_=>Option (List (Str×MV))) (some []) (λp z_ q=>fF (motive:=λz_=>Option (List (Str×MV))) p.2 q none
 (aF (lk sc p.1) (λk=>aF (lk locs p.1) (λv=>pU k none (aF q (λq=>some ((p.1,v)::q)) none) none none) none) none) q q) names
noncomputable def i7(sc:List (Str×aE))(names:List (Str×aE)):List (Str×aE):=bA (motive:=λz_=>List (Str×aE)) [] (λp z_ q=>fF (motive:=λz_=>List (Str×aE)) p.2 (p::q) (p::q)
 ((p.1,aF (lk sc p.1) (λk=>fF (motive:=λz_=>aE) k .free .cell .free .free .free) .free)::q) (p::q) (p::q)) names
noncomputable def frees(names:List (Str×aE)):List Str:=bA (motive:=λz_=>List Str) [] (λp z_ q=>fF (motive:=λz_=>List Str) p.2 q q (p.1::q) q q) names
noncomputable def iU(cells:List (Str×au))(names:List (Str×aE)):List (Str×au):=((frees names).map λn=>(n,(cells.lookup n).getD 0)).reverse
theorem vo{names:List (Str×aE)}{x:Str}:x ∈ frees names→(x,NameKind.free) ∈ names:=by
 induction names with
 | nil=>exact λh=>jd h
 | cons p r ih=>
  obtain⟨n,k⟩:=p
  intro h
  cases k with
  | free=>exact(ay.mp h).elim (λe=>e▸ .head _) λh=>.tail _ (ih h)
  | _=>exact .tail _ (ih h)
theorem q_{names:List (Str×aE)}:(names.map (·.1)).Nodup→(frees names).Nodup:=by
 induction names with
 | nil=>exact λz_=>jA
 | cons p r ih=>
  obtain⟨n,k⟩:=p
  intro h
  rw[cG,bK] at h
  cases k with
  | free=>exact bK.mpr ⟨λq=>h.1 (cJ.mpr ⟨_,vo q,rfl⟩),ih h.2⟩
  | _=>exact ih h.2
structure oF(sc:List (Str×aE))(locs:List (Str×MV))(names:List (Str×aE))(fl:List (Str×MV)):Prop where
 all:∀ x ∈ frees names,∃ v,lk locs x=some v∧(lk sc x=some .cell∨lk sc x=some .free)
 get:∀ x v,lk fl x=some v→x ∈ frees names∧lk locs x=some v
 no:∀ p ∈ names,p.2≠ .cell
theorem oF.cons{sc:List (Str×aE)}{locs:List (Str×MV)}{r:List (Str×aE)}{q:List (Str×MV)}(i:oF sc locs r q){n:Str}{v:MV}(hv:lk locs n=some v)(hs:lk sc n=some .cell∨lk sc n=some .free):oF sc locs ((n,.free)::r) ((n,v)::q) where
 all:=λx hx=>by
  rcases ay.mp (show x ∈ n::frees r from hx) with e | hx
  ·subst e;exact⟨v,hv,hs⟩
  ·exact i.all x hx
 get:=λx w hw=>by
  show x ∈ n::frees r∧_
  have hw:cond (bT n x) (some v) (lk q x)=some w:=hw
  cases hb:bT n x with
  | true=>rw[hb] at hw;cases hw;cases bZ.mp hb;exact⟨.head _,hv⟩
  | false=>rw[hb] at hw;obtain⟨a,b⟩:=i.get x w hw;exact⟨.tail _ a,b⟩
 no:=λp hp=>by
  rcases ay.mp hp with e | hp
  ·subst e;intro q;cases q
  ·exact i.no p hp
theorem oF.skip{sc:List (Str×aE)}{locs:List (Str×MV)}{r:List (Str×aE)}{q:List (Str×MV)}(i:oF sc locs r q){n:Str}{k:aE}(hf:frees ((n,k)::r)=frees r)(hk:k≠ .cell):oF sc locs ((n,k)::r) q:=
 ⟨hf▸i.all,hf▸i.get,gP.mpr ⟨hk,i.no⟩⟩
theorem pR{sc:List (Str×aE)}{locs:List (Str×MV)}{names:List (Str×aE)}:∀ {fl:List (Str×MV)},gx sc locs names=some fl→oF sc locs names fl:=by
 induction names with
 | nil=>exact λh=>by cases h;exact⟨λz_ h=>(jd h),λz_ z_ h=>(bR h),λz_ h=>(jd h)⟩
 | cons p r ih=>
  obtain⟨n,k⟩:=p
  intro fl h
  cases k with
  | free=>
   have h:aF (lk sc n) (λk=>aF (lk locs n) (λv=>pU k none (aF (gx sc locs r) (λq=>some ((n,v)::q)) none) none none) none) none=some fl:=h
   cases h1:lk sc n with
   | none=>rw[h1] at h;exact bR h
   | some j=>
   rw[h1] at h
   cases h2:lk locs n with
   | none=>rw[h2] at h;exact bR h
   | some v=>
   rw[h2] at h
   cases h3:gx sc locs r with
   | none=>rw[h3] at h;cases j <;> exact bR h
   | some q=>
   rw[h3] at h
   cases j with
   | cell=>cases h;exact(ih h3).cons h2 (.inl h1)
   | free=>cases h;exact(ih h3).cons h2 (.inr h1)
   | _=>exact bR h
  | cell=>exact bR h
  | _=>exact(ih h).skip rfl nofun
theorem jw{env:Env}{scope:nY}(h:∀ x ∈ frees scope.names,∃ c,env.cells.lookup x=some c):closureFor scope env=pure (iU env.cells scope.names):=by
 unfold closureFor iU
 have key:∀ (names:List (Str×aE)) (acc:List (Str×au)),(∀ x ∈ frees names,∃ c,env.cells.lookup x=some c)→
   (forIn names acc λ(x:Str×aE) (cs:List (Str×au))=>(if x.2 == .free then do let c ←cellOf env x.1;pure (u7 ((x.1,c)::cs)) else pure (u7 cs):Sem (ForInStep (List (Str×au)))))=
    pure (((frees names).map λn=>(n,(env.cells.lookup n).getD 0)).reverse++acc):=by
  intro names
  induction names with
  | nil=>intro acc _;rfl
  | cons p r ih=>
   obtain⟨n,k⟩:=p
   intro acc hh
   rw[List.forIn_cons]
   cases k with
   | free=>
    refine E1_1 (hh n (.head _)) λc hc=>?_
    have e:cellOf env n=pure c:=by unfold cellOf;rw[hc]
    dsimp only
    rw[if_pos (by decide),e]
    show(forIn r ((n,c)::acc) _:Sem _)=_
    rw[ih _ (λx hx=>hh x (.tail _ hx))]
    simp[frees,hc]
   | _=>
    dsimp only
    rw[if_neg (by decide)]
    show(forIn r acc _:Sem _)=_
    rw[ih _ (λx hx=>hh x hx)]
    simp[frees]
 have:=key scope.names [] h
 simp only[dw] at this
 rw[←this]
 show(forIn scope.names [] _>>=λcs=>pure cs)=_
 rw[show∀ (m:Sem (List (Str×au))),(m>>=λcs=>pure cs)=m from λm=>bind_pure m]
theorem Gi{env:Env}{scope:nY}{sc:List (Str×aE)}(hn:env.scope.names=sc)(hk:env.scope.kind= .function):(relabel scope env).names=i7 sc scope.names:=by
 have Ql:∀ x,env.kindOf x=lk sc x:=λx=>by rw[jY, ←hn];rfl
 unfold relabel
 dsimp only
 generalize scope.names=names
 induction names with
 | nil=>rfl
 | cons p r ih=>
  obtain⟨n,k⟩:=p
  rw[cG,ih]
  cases k with
  | free=>
   show(if(_&&env.scope.kind == sL&&env.kindOf n == some o_)=true then(n,o_) else(n,NameKind.free))::i7 sc r=(n,aF (lk sc n) _ _)::i7 sc r
   rw[hk,Ql]
   cases lk sc n with
   | none=>rfl
   | some j=>cases j <;> rfl
  | _=>rfl
theorem Gj{sc:List (Str×aE)}{names:List (Str×aE)}:(names.map (·.1)).Nodup→∀ {x:Str},x ∈ frees names→lk (i7 sc names) x=some .cell∨lk (i7 sc names) x=some .free:=by
 induction names with
 | nil=>exact λz_ z_ h=>jd h
 | cons p r ih=>
  obtain⟨n,k⟩:=p
  intro nd x h
  rw[cG,bK] at nd
  have ne:∀ y,y ∈ frees r→bT n y=false:=λy hy=>l8 λq=>nd.1 (cJ.mpr ⟨_,vo hy,q.symm⟩)
  cases k with
  | free=>
   show cond (bT n x) (some _) (lk (i7 sc r) x)=_∨cond (bT n x) (some _) (lk (i7 sc r) x)=_
   rcases ay.mp (show x ∈ n::frees r from h) with e | h
   ·subst e
    rw[lO]
    cases lk sc x with
    | none=>exact .inr rfl
    | some j=>cases j <;> first | exact .inl rfl | exact .inr rfl
   ·rw[ne x h];exact ih nd.2 h
  | _=>
   show cond (bT n x) (some _) (lk (i7 sc r) x)=_∨cond (bT n x) (some _) (lk (i7 sc r) x)=_
   rw[ne x (show x ∈ frees r from h)]
   exact ih nd.2 (show x ∈ frees r from h)
noncomputable def Co{α:Type}(k:α→St→Prop)(r:Res α)(σ:St):Prop:=match r with
 | .ok a=>k a σ
 | .exc _=>False
noncomputable def xW(ih:Ih):List aJ→M Bool
 | []=>M.ret true
 | [c]=>ih.qg c
 | _=>M.no
noncomputable def wu(ih:Ih)(target elt:aJ)(ifs:List aJ)(xs:List PV)(σ:St)(fin:List PV→St→Prop):Prop:=∃ inv:Nat→List PV→St→Prop,inv 0 [] σ∧
 (∀ i ys τ x,xs[i]? =some x→inv i ys τ→ih.asg target (.pv x) τ (Co λz_ oE=>xW ih ifs oE (Co λb kG=>match b with
  | true=>ih.ev elt kG (Co λy jS=>∃ p,y= .pv p∧∃ fS,Sub jS fS∧inv (i+1) (ys++[p]) fS)
  | false=>∃ fS,Sub kG fS∧inv (i+1) ys fS)))∧
 (∀ ys τ,inv xs.length ys τ→fin ys τ)
section
variable{S:Sx}{f f':Fx}{sc:List (Str×aE)}{P:Pg}{ih:Ih}{n n₀ n':Snap}{σ τ:St}
theorem Du(rel:bu S f σ n)(hf:f.Ok)(e1:f'.cZ=f.cZ)(e2:f'.fr=f.fr){C:au}(hC:n.h.get? C=none)(own':∀ a ∈ f'.own,a=C∨(a ∈ f.cl∧∃ o,n.X.G a=some o))(ev:dB f'.own f'.cZ f'.cl n n')(rel':bu S f' τ n'):
  dB f.own f.cZ f.cl n n'∧bu S f {σ with foot:=τ.foot,dom:=τ.dom} n':=by
 have R8:∀ a ∈ f'.cl,a=C∨(a ∈ f.cl∧∃ o,n.X.G a=some o):=λa ha=>own' a (.tail _ ha)
 have nC:∀ b o,n.h.get? b=some o→b≠C:=λb o e q=>by rw[q,hC] at e;exact bR e
 have iw:dB f.own f.cZ f.cl n n':=by
  refine⟨ev.le,λb o e h1 h2=>?_,ev.live,ev.mW,λa o e=>?_⟩
  ·rw[←e1]
   refine ev.keep b o e h1 λq=>?_
   rcases own' b q with z | ⟨z,_⟩
   ·exact nC b o e z
   ·exact h2 (.tail _ z)
  ·rcases ev.jt a o e with z | z | z | z
   ·exact .inl z
   ·exact .inr (.inl z)
   ·exact .inr (.inr (.inl z))
   ·rcases R8 a z with q | ⟨q,_⟩
    ·rw[q];exact .inr (.inr (.inl hC))
    ·exact .inr (.inr (.inr q))
 have data:∀ b o,n.h.get? b=some o→n.X.own b=none→b ∉ f'.own→∃ sl,n'.h.get? b=some {o with slots:=sl}:=λb o e h1 h2=>by
  refine A2 (ev.keep b o e h1 h2) λk1 k2=>?_
  by_cases hb:b ∈ f'.cZ
  ·exact k2 hb
  ·exact⟨o.slots,k1 hb⟩
 have RG:∀ b o,n.h.get? b=some o→n.X.own b=none→n.X.G b=none→b ∉ f'.own→n'.X.G b=none:=λb o e h1 h2 h3=>q9 ev e h1 h2 λq=>h3 (.tail _ q)
 refine⟨iw,⟨⟨rel'.inv,rel'.dom,λa ha=>rel'.off a (by rw[show List.filterMap (λx=>x.frame) f'.fr=f'.cZ from rfl,e1];exact ha),by rw[←e2];exact rel'.frames⟩,?_,?_,λc hc=>(rel.cells c hc).elim λo e=>ev.live c o e⟩⟩
 ·refine E1_3 rel.locs λm hm h1 h2=>?_
  refine⟨m,?_,λx mv e=>?_,λx hx=>?_⟩
  ·refine E3_3 hm λo es ep ho hd r=>?_
   obtain⟨sl,e⟩:=data _ _ ho rel.kB.1 λq=>by
    rcases own' _ q with z | ⟨z,_⟩
    ·exact nC _ _ ho z
    ·exact hf.apart _ (.head _) z
   exact⟨_,es,ep,e,hd,r⟩
  ·refine E1_2 (h1 x mv e) λv hv r=>?_
   refine⟨v,hv.mono ev.le,?_⟩
   split at r
   ·exact r
   ·obtain⟨c,ob,a1,a2,a3⟩:=r;exact⟨c,ob,a1,ev.le.G _ _ a2,a3⟩
   ·obtain⟨c,ob,a1,a2,a3⟩:=r;exact⟨c,ob,a1,ev.le.G _ _ a2,a3⟩
   ·exact r
  ·refine fO λzz=>?_
   obtain⟨hk,c,a1,a2,a3,ob,a4,a5⟩:=h2 x hx
   refine zz ?_
   have Nk:c ∉ f'.own:=λq=>by
    rcases own' c q with z | ⟨_,o,z⟩
    ·exact nC _ _ a4 z
    ·rw[a3] at z;exact bR z
   refine E1_1 (data c ob a4 a2 Nk) λsl e=>?_
   exact⟨hk,c,a1,ev.iD a4 a2,RG c ob a4 a2 a3 Nk,_,e,a5⟩
 ·refine E1_2 rel.locs λm hm z_=>?_
  refine E1_1 (Ns.live hm) λo ho=>?_
  refine⟨ev.iD ho rel.kB.1,RG _ o ho rel.kB.1 rel.kB.2 λq=>?_⟩
  rcases own' _ q with z | ⟨z,_⟩
  ·exact nC _ _ ho z
  ·exact hf.apart _ (.head _) z
structure Acc(f:Fx)(n₀ n:Snap)(D:au)(ys:List PV):Prop where
 new:n₀.h.get? D=none
 own:n.X.own D=none
 G:n.X.G D=none
 off:D ∉ f.cZ∧D ∉ f.own
 at_:∃ its k,n.h.get? D=some (fh its k)∧bQ n.X.P n.X.G its ys
theorem Acc.step{D ys}(a:Acc f n₀ n D ys)(ev:dB f.own f.cZ f.cl n n'):Acc f n₀ n' D ys:=by
 refine E2_2 a.at_ λits k h1 h2=>?_
 have e:=(ev.keep D _ h1 a.own a.off.2).1 a.off.1
 exact⟨a.new,ev.iD h1 a.own,q9 ev h1 a.own a.G (λq=>a.off.2 (.tail _ q)),a.off,its,k,e,h2.le ev.le⟩
theorem Acc.fresh{D ys}(a:Acc f n₀ n D ys):kN f n₀ n [D]:=⟨λb hb=>by rw[az.mp hb];exact a.new,λb hb=>by rw[az.mp hb];exact a.own,λb hb=>by rw[az.mp hb];exact a.G⟩
end
section
variable{S:Sx}{f f':Fx}{sc:List (Str×aE)}{P:Pg}{ih:Ih}{n n₀ n':Snap}{σ τ:St}
theorem Runs.wrote{target:aJ}{I:au}{xs:List PV}{X₀:Rc}{fp wr:List au}{Sp:Nat→b9→Prop}{i:Nat}(r:Runs S f target I xs X₀ fp wr Sp n₀ n i)(I0:Inv S σ.foot n){D:au}(hD:D ∉ fp){h':b9}(kp:∀ b o,b≠D→n.h.get? b=some o→h'.get? b=some o):Runs S f target I xs X₀ fp wr Sp n₀ ⟨n.X,h'⟩ i:=by
 have ne:∀ b ∈ fp,b≠D:=λb hb q=>hD (q▸hb)
 refine⟨r.it,r.le,r.it.frame i _ _ r.at_ λb hb o e=>kp b o (ne b hb) e,λb hb=>?_,⟨r.fresh.new,r.fresh.own,r.fresh.G⟩,r.offs⟩
 rcases r.kept b hb with ⟨o,g⟩ | ⟨h1,⟨o,ho⟩,h2⟩
 ·exact .inl ⟨o,g⟩
 ·exact .inr ⟨h1,⟨o,kp b o (ne b hb) ho⟩,h2⟩
theorem C4(hI:dX S f ih)(hf:f.Ok){target elt iter:aJ}{ifs:List aJ}{scope:nY}{pos:Pos}{xs:List PV}{I D:au}{X₀:Rc}{fp wr:List au}{Sp:Nat→b9→Prop}
  (r:Runs S f target I xs X₀ fp wr Sp n₀ n 0)(ev:dB f.own f.cZ f.cl n₀ n)(rel:bu S f σ n)(hD:D ∉ fp)(a:Acc f n₀ n D [])(hz:xs.length≤aB){fin:List PV→St→Prop}(run:wu ih target elt ifs xs σ fin){g d tk os}{R:j6→ah→Prop}
  (EY:∀ n' tk' ys τ,fin ys τ→dB f.own f.cZ f.cl n₀ n'→bu S f τ n'→Acc f n₀ n' D ys→R (.ok .next) ⟨n'.h,g,d,tk',os⟩):
  dF (model S.prog S.w) f.A (.compLoop (.ListComp elt [⟨target,iter,ifs,0⟩] scope pos) 0 (.ref I) (.ref D) f.env) R ⟨n.h,g,d,tk,os⟩:=by
 refine E1_3 run λinv i0 turn fin'=>?_
 unfold aB at hz
 refine zp (λk s=>∃ n' τ i ys tk',s=⟨n'.h,g,d,tk',os⟩∧dB f.own f.cZ f.cl n₀ n'∧bu S f τ n'∧inv i ys τ∧Runs S f target I xs X₀ fp wr Sp n₀ n' i∧Acc f n₀ n' D ys∧ys.length≤i∧i+k=xs.length) ?_ xs.length
  ⟨n,σ,0,[],tk,rfl,ev,rel,i0,r,a,bf _,by exact eG _⟩
 intro k s Lz
 obtain⟨n₁,oE,i,ys,tk₁,rfl,j7,i8,oV,r₁,a₁,hy,hk⟩:=Lz
 cases hx:xs[i]? with
 | none=>
  have hi:i=xs.length:=by
   have:=List.getElem?_eq_none_iff.mp hx
   exact Nat.le_antisymm (aa (aT i k) (aQ hk)) this
  subst hi
  refine bS (r₁.it.done _ _ _ r₁.at_ λh' tk' kp=>?_)
  have iw:=j7.wrote (f:=f) r₁.fresh kp
  have kK:=i8.wrote r₁.fresh r₁.offs (e9 f) kp
  have nD:D ∉ wr:=λq=>hD (r₁.it.sub D q)
  refine E2_2 a₁.at_ λits j e1 e2=>?_
  exact EY ⟨n₁.X,h'⟩ tk' ys oE (fin' ys oE oV) iw kK ⟨a₁.new,a₁.own,a₁.G,a₁.off,its,j,kp D _ nD e1,e2⟩
 | some x=>
  have hi:i<xs.length:=(bW.mp hx).1
  have again:∀ n' τ ys' tk',dB f.own f.cZ f.cl n₀ n'→bu S f τ n'→inv (i+1) ys' τ→Runs S f target I xs X₀ fp wr Sp n₀ n' (i+1)→Acc f n₀ n' D ys'→ys'.length≤i+1→
    ∃ m,m<k∧∃ nS τ i ys z0,(⟨n'.h,g,d,tk',os⟩:ah)=⟨nS.h,g,d,z0,os⟩∧dB f.own f.cZ f.cl n₀ nS∧bu S f τ nS∧inv i ys τ∧Runs S f target I xs X₀ fp wr Sp n₀ nS i∧Acc f n₀ nS D ys∧ys.length≤i∧i+m=xs.length:=
   λn' τ ys' tk' h1 h2 h3 h4 h5 h6=>⟨k-1,by exact(kpos hk hi).1,n',τ,i+1,ys',tk',rfl,h1,h2,h3,h4,h5,h6,by exact(kpos hk hi).2⟩
  refine bS (wpAny_mono (r₁.next hx j7 i8 (E:=λz_ z_=>False) (Q:=λv s₂=>aA (model S.prog S.w) f.A (assign target f.env v) (λz_ s₃=>aA (model S.prog S.w) f.A (su ifs f.env) (λok s₄=>
      if ok=true then aA (model S.prog S.w) f.A (eval elt f.env) (λx s₅=>
       aA (model S.prog S.w) f.A (call (.builtin "list.append") [.ref D,x]) (λz_ s₆=>∃ m,m<k∧∃ nS τ i ys z0,s₆=⟨nS.h,g,d,z0,os⟩∧dB f.own f.cZ f.cl n₀ nS∧bu S f τ nS∧inv i ys τ∧Runs S f target I xs X₀ fp wr Sp n₀ nS i∧Acc f n₀ nS D ys∧ys.length≤i∧i+m=xs.length) (λz_ z_=>False) s₅) (λz_ z_=>False) s₄
      else∃ m,m<k∧∃ nS τ i ys z0,s₄=⟨nS.h,g,d,z0,os⟩∧dB f.own f.cZ f.cl n₀ nS∧bu S f τ nS∧inv i ys τ∧Runs S f target I xs X₀ fp wr Sp n₀ nS i∧Acc f n₀ nS D ys∧ys.length≤i∧i+m=xs.length) (λz_ z_=>False) s₃) (λz_ z_=>False) s₂)
    λn₂ tk₂ v oj gV r₂ hv mv=>?_) (λrr s₂ h₂=>?_) λz_ z_ x=>x)
  ·--the list gathered stays while the iterator moves
   have a₂:Acc f n₀ n₂ D ys:=by
    refine E2_2 a₁.at_ λits j e1 e2=>?_
    refine A3 (mv.2 D _ (λq=>hD (r₁.it.sub D q)) e1) λm1 m2 m3=>?_
    exact⟨a₁.new,m2.trans a₁.own,m3.trans a₁.G,a₁.off,its,j,m1,e2.le mv.1⟩
   refine hI.asg target v (.pv x) n₂ (.pv hv) oE _ gV (turn i ys oE x hx oV) g d tk₂ os _ _ λn₃ tk₃ σ₃ lJ iJ=>⟨λb hq b' hb=>?_,λt hq e fl=>hq.elim⟩
   have EH:=oj.trans lJ
   have Le:=r₂.step gV iJ lJ
   have a₃:=a₂.step lJ
   have tests:∀ {Qt:Bool→ah→Prop},(∀ n' tk' Q4,dB f.own f.cZ f.cl n₃ n'→bu S f Q4 n'→∀ b,(match b with
     | true=>ih.ev elt Q4 (Co λy jS=>∃ p,y= .pv p∧∃ fS,Sub jS fS∧inv (i+1) (ys++[p]) fS)
     | false=>∃ fS,Sub Q4 fS∧inv (i+1) ys fS)→Qt b ⟨n'.h,g,d,tk',os⟩)→aA (model S.prog S.w) f.A (su ifs f.env) Qt (λz_ z_=>False) ⟨n₃.h,g,d,tk₃,os⟩:=by
    intro Qt Rt
    have hq:xW ih ifs σ₃ (Co λb kG=>match b with
     | true=>ih.ev elt kG (Co λy jS=>∃ p,y= .pv p∧∃ fS,Sub jS fS∧inv (i+1) (ys++[p]) fS)
     | false=>∃ fS,Sub kG fS∧inv (i+1) ys fS):=hq
    cases ifs with
    | nil=>exact aD (Rt n₃ tk₃ σ₃ (.refl _) iJ true hq)
    | cons c rest=>
     cases rest with
     | cons _ _=>exact hq.elim
     | nil=>
      unfold su
      simp only[List.forIn_cons,List.forIn_nil,if_true]
      refine ai (ai (hI.qg c n₃ σ₃ _ iJ hq g d tk₃ os _ _ λn₄ tk₄ σ₄ pO ju=>⟨λb hb b' e=>?_,λt hq e fl=>hq.elim⟩))
      cases e
      exact aD (aD (Rt n₄ tk₄ σ₄ pO ju _ hb))
   refine tests λn₄ tk₄ σ₄ pO ju b hb=>?_
   have wJ:=EH.trans pO
   have Gn:=Le.step iJ ju pO
   have a₄:=a₃.step pO
   cases b with
   | false=>
    rw[if_neg (by decide)]
    refine E1_2 hb λfS hs hb=>?_
    exact again n₄ fS ys tk₄ wJ (ju.sub hs) hb Gn a₄ (bM hy)
   | true=>
    rw[if_pos rfl]
    refine hI.ev elt n₄ σ₄ _ ju hb g d tk₄ os _ _ λn₅ tk₅ σ₅ EI Bq=>⟨λy hy' v hv=>?_,λt hq e fl=>hq.elim⟩
    obtain⟨p,rfl,fS,hs,hinv⟩:=hy'
    have Py:=wJ.trans EI
    have QT:=Gn.step ju Bq EI
    have a₅:=a₄.step EI
    refine E2_2 a₅.at_ λits j e1 e2=>?_
    have hl:=e2.length
    refine bS (wpAny_list_append_plain (s:=⟨n₅.h,g,d,tk₅,os⟩) ⟨j,e1⟩ (λh' h1 h2=>?_) (by rw[sizeLine_eq,aG];exact aa (aQ hl) (aa hy (aa (eB hi) (aa hz (by decide))))))
    refine E1_1 h1 λj' h1=>?_
    rw[nq] at h1
    have kp:∀ b o,b ∉ [D]→n₅.h.get? b=some o→h'.get? b=some o:=λb o hb e=>(h2.2 b (λq=>hb (by rw[q];exact .head _))).trans e
    have fr:=a₅.fresh
    have off:∀ b ∈ [D],b ∉ f.cZ∧b ∉ f.own:=λb hb=>by rw[az.mp hb];exact a₅.off
    refine again ⟨n₅.X,h'⟩ fS (ys++[p]) tk₅ (Py.wrote (f:=f) fr kp) ((Bq.sub hs).wrote fr off (e9 f) kp) hinv (QT.wrote Bq.inv hD λb o hb e=>kp b o (λq=>hb (az.mp q)) e) ⟨a₅.new,a₅.own,a₅.G,a₅.off,_,j',h1,e2.append (.cons (nU hv) .nil)⟩ ?_
    rw[aS,l9];exact aH hy
  ·obtain⟨v,rfl,h₂⟩:=h₂
   exact bS h₂
end
section
variable{S:Sx}{f:Fx}{sc:List (Str×aE)}{P:Pg}{ih:Ih}{n:Snap}{σ:St}
noncomputable abbrev Ka(f:Fx)(scope:nY)(C:au):Fx:=⟨f.A,compEnvC scope (iU f.env.cells scope.names) C f.env,f.fr,f.lv⟩
structure InComp(f f':Fx)(sc:List (Str×aE))(scope:nY):Prop where
 ok:f'.Ok
 nodup:(f'.env.cells.map (·.2)).Nodup
 names:f'.env.scope.names=i7 sc scope.names
 lv:f'.lv=f.lv
theorem Ax(hnd:(f.env.cells.map (·.2)).Nodup){names:List (Str×aE)}(nd:(names.map (·.1)).Nodup)(all:∀ x ∈ frees names,∃ c,f.env.cells.lookup x=some c):((iU f.env.cells names).map (·.2)).Nodup:=by
 unfold iU
 rw[dY,uG]
 refine(List.reverse_perm _).nodup_iff.mpr ?_
 rw[pA,List.pairwise_map]
 have:=q_ nd
 rw[pA] at this
 refine this.imp_of_mem λ{a b} ha hb hne=>?_
 intro e
 obtain⟨c,hc⟩:=all a ha
 obtain⟨c',hc'⟩:=all b hb
 have e:(f.env.cells.lookup a).getD 0=(f.env.cells.lookup b).getD 0:=e
 rw[hc,hc'] at e
 have e:c=c':=e
 subst e
 exact hne (tL hnd hc hc')
theorem vj(hS:S.Ok)(hf:f.Ok)(hnd:(f.env.cells.map (·.2)).Nodup)(O:ic S P)(hn:f.env.scope.names=sc){elt target iter:aJ}{ifs:List aJ}{scope:nY}{pos:Pos}(rel:bu S f σ n){h1:b9}{I:au}{xs:List PV}(laid:Laid S f target n h1 I xs)
  (hz:xs.length≤aB)(hk:scope.kind= .function)(nd:(scope.names.map (·.1)).Nodup){fl:List (Str×MV)}(hfl:gx sc σ.locs scope.names=some fl){fin:List PV→St→Prop}{k:Nat}
  (run:∀ f',InComp f f' sc scope→wu (oq S f' P (i7 sc scope.names) k) target elt ifs xs ⟨fl,σ.foot,σ.dom,[]⟩ fin){g d tk os}{use:Option (af→Sem Unit)}{Qv:af→ah→Prop}{E:af→ah→Prop}
  (EY:∀ n3 tk' ys τ D C,fin ys τ→dB f.own f.cZ f.cl n n3→bu S f {σ with foot:=τ.foot,dom:=τ.dom} n3→cy n3.X.P n3.X.G (.ref D) (.list ys)→n.h.get? C=none→n3.X.own C=none→n3.X.G C=none→(∃ m,n3.h.Ns C m)→
   jX (model S.prog S.w) f.A E use Qv (.ref D) C (.ok .next) ⟨n3.h,g,d,tk',os⟩):
  aA (model S.prog S.w) f.A (newList []) (λacc s₃=>aA (model S.prog S.w) f.A (newFunctionEnv scope f.env.globals (iU f.env.cells scope.names) [] f.env.qual none .none (some f.env)) (λcenv s₄=>
   dF (model S.prog S.w) f.A (.compStart (.ListComp elt [⟨target,iter,ifs,0⟩] scope pos) 0 (.ref I) acc {cenv with scope:=relabel scope f.env}) (jX (model S.prog S.w) f.A E use Qv acc cenv.locals) s₄) E s₃) E ⟨h1,g,d,tk,os⟩:=by
 have fo:=pR hfl
 refine E3_4 laid.run λfp wr Sp it st nw OF=>?_
 refine bS (wpAny_newList (bS ?_) (by show(0:Nat)≤sizeLine;exact d7 _))
 refine wpAny_newFunctionEnv (λx hx=>fo.no x hx) (by intro x hx;exact jd hx) (λh3 hns Cc=>?_) hk
 dsimp only at hns Cc ⊢
 generalize PX:h1.push {cls:=.type "list",dict:=none,data:=.seq ([]:List af).toArray}=H2 at hns Cc ⊢
 have Oc:H2.objs.size=h1.objs.size+1:=by rw[←PX,eY]
 generalize hD:h1.objs.size=D at*
 generalize hC:H2.objs.size=C at*
 have Mx:h1.get? D=none:=by rw[←hD];exact bJ _
 have Hr:H2.get? C=none:=by rw[←hC];exact bJ _
 have KN:∀ b o,h1.get? b=some o→H2.get? b=some o:=λb o e=>by rw[←PX];exact aq _ e
 have Kv:H2.get? D=some (fh [] 0):=by rw[←PX, ←hD];exact aL _ rfl
 have hDC:D≠C:=λq=>by rw[q,Hr] at Kv;exact bR Kv
 have MU:∀ b o,H2.get? b=some o→h3.get? b=some o:=λb o e=>by
  have hb:b≠C:=λq=>by rw[q,Hr] at e;exact bR e
  exact(Cc.2 b hb).trans (aq _ e)
 have KO:∀ b o,h1.get? b=some o→h3.get? b=some o:=λb o e=>MU b o (KN b o e)
 have kp:∀ b o,n.h.get? b=some o→h3.get? b=some o:=λb o e=>KO b o (laid.kp b o e)
 have nD:n.h.get? D=none:=dg (λb o e=>⟨o,laid.kp b o e⟩) Mx
 have nC:n.h.get? C=none:=dg (λb o e=>⟨o,KN b o (laid.kp b o e)⟩) Hr
 have Ds:∀ b,n.h.get? b=none→b ∉ f.cZ∧b ∉ f.own:=λb hb=>by
  constructor
  ·intro q;obtain⟨o,e⟩:=rel.lives b (bN.mpr (.inl q));rw[hb] at e;exact bR e
  ·intro q;obtain⟨o,e⟩:=rel.lives b (bN.mpr (.inr q));rw[hb] at e;exact bR e
 have Ql:∀ x,f.env.kindOf x=lk sc x:=λx=>ee hn x
 refine E1_3 rel.locs λm hm l1 l2=>?_
 have wo:∀ x ∈ frees scope.names,∃ v mv c o,lk σ.locs x=some mv∧aW n.X v mv∧f.env.cells.lookup x=some c∧n.X.G c=some o∧o.data= .cell (some v):=λx hx=>by
  refine E1_2 (fo.all x hx) λmv LG hs=>?_
  refine E1_2 (l1 x mv LG) λv hv r=>?_
  rcases hs with hs | hs <;> (rw[Ql,hs] at r;obtain⟨c,o,r1,r2,r3⟩:=r;exact⟨v,mv,c,o,LG,hv,r1,r2,r3⟩)
 have all:∀ x ∈ frees scope.names,∃ c,f.env.cells.lookup x=some c:=λx hx=>by
  obtain⟨_,_,c,_,_,_,h,_⟩:=wo x hx;exact⟨c,h⟩
 have Eu:∀ y c,(y,c) ∈ iU f.env.cells scope.names→y ∈ frees scope.names∧f.env.cells.lookup y=some c:=λy c h=>by
  unfold iU at h
  refine E1_2 (cJ.mp (cI.mp h)) λy' h1 h2=>?_
  cases h2
  refine E1_1 (all y h1) λc' hc'=>?_
  refine⟨h1,?_⟩
  rw[hc'];rfl
 have J_:∀ y ∈ frees scope.names,(iU f.env.cells scope.names).lookup y=f.env.cells.lookup y:=λy hy=>by
  refine E1_1 (all y hy) λc hc=>?_
  rw[hc]
  refine jN ?_ ?_
  ·unfold iU
   rw[dY,uG]
   refine(List.reverse_perm _).nodup_iff.mpr ?_
   have:((λx=>x.1) ∘ λn=>(n,(f.env.cells.lookup n).getD 0):Str→Str)=id:=rfl
   rw[this,List.map_id]
   exact q_ nd
  ·unfold iU
   refine cI.mpr (cJ.mpr ⟨y,hy,?_⟩)
   rw[hc];rfl
 have Rl:=Ax hnd nd all
 let f':Fx:=Ka f scope C
 have own':∀ a ∈ f'.own,a=C∨(a ∈ f.cl∧∃ o,n.X.G a=some o):=λa ha=>by
  rcases ay.mp ha with e | ha
  ·exact .inl e
  ·refine E1_2 (cJ.mp ha) λGS h1 eV=>?_
   subst eV
   obtain⟨y,c⟩:=GS
   refine A2 (Eu y c h1) λhy hc=>?_
   refine E4_5 (wo y hy) λz_ z_ c' o z_ z_ hc' hg z_=>?_
   rw[hc] at hc';cases hc'
   exact .inr ⟨e9 f y _ hc,o,hg⟩
 have JC:f'.Ok:=by
  refine E2_3 hf.here λme outer z1 z2 z3=>?_
  refine⟨hf.room,hk,hf.globals,hf.builtins,λa ha hc=>?_,⟨me,outer,z1,z2,z3⟩,hf.handled⟩
  refine E1_2 (cJ.mp hc) λGU h1 eV=>?_
  subst eV
  obtain⟨y,c⟩:=GU
  refine A2 (Eu y c h1) λhy hc=>?_
  have MO:=e9 f y c hc
  rcases ay.mp ha with e | ha
  ·have e:c=C:=e
   refine E1_1 (rel.cells c MO) λo z=>?_
   rw[e,nC] at z;exact bR z
  ·exact hf.apart c (dj _ ha) MO
 have Hz:InComp f f' sc scope:=⟨JC,Rl,Gi hn hf.kind,rfl⟩
 have Qh:=rel.inv.grow kp
 have QO:bu S f' ⟨fl,σ.foot,σ.dom,[]⟩ ⟨n.X,h3⟩:=by
  refine⟨⟨Qh,rel.dom,λa ha=>?_,m6 (λb o e z_=>⟨o.slots,kp b o e⟩) rel.frames⟩,?_,aZ rel.inv nC,λc hc=>?_⟩
  ·refine fO λzz=>?_
   obtain⟨z1,z2,o,z3⟩:=rel.off a ha
   refine zz ?_
   exact⟨z1,z2,o,kp a o z3⟩
  ·refine⟨_,hns,λx mv e=>?_,λx hx=>jd hx⟩
   refine A2 (fo.get x mv e) λhx LG=>?_
   refine E4_5 (wo x hx) λv Uj c o g1 g2 g3 g4 g5=>?_
   rw[LG] at g1;cases g1
   refine⟨v,g2,?_⟩
   have kk:f'.env.kindOf x=lk (i7 sc scope.names) x:=ee Hz.names x
   have gg:∃ c o,f'.env.cells.lookup x=some c∧n.X.G c=some o∧o.data= .cell (some v):=⟨c,o,(J_ x hx).trans g3,g4,g5⟩
   rw[kk]
   rcases Gj (sc:=sc) nd hx with h | h <;> (rw[h];exact gg)
  ·refine E1_2 (cJ.mp hc) λLA h1 eV=>?_
   subst eV
   obtain⟨y,c'⟩:=LA
   refine A2 (Eu y c' h1) λhy hcc=>?_
   refine E1_1 (rel.cells c' (e9 f y c' hcc)) λo z=>?_
   exact⟨o,kp c' o z⟩
 have Sv:dB f'.own f'.cZ f'.cl n ⟨n.X,h3⟩:=(dB.grow (own:=[]) (fr:=f'.cZ) (cl:=[]) kp).wide
 have off':∀ b,n.h.get? b=none→b≠C→b ∉ f'.cZ∧b ∉ f'.own:=λb hb hc=>by
  refine⟨(Ds b hb).1,λq=>?_⟩
  rcases own' b q with z | ⟨z,_⟩
  ·exact hc z
  ·exact(Ds b hb).2 (.tail _ z)
 have AG:∀ b ∈ fp,∃ o,h1.get? b=some o:=λb hb=>by
  rcases OF b hb with ⟨o,g⟩ | ⟨_,h⟩
  ·exact⟨o,laid.kp b o (rel.inv.sub b o g)⟩
  ·exact h
 have PN:∀ b ∈ fp,b≠C∧b≠D:=λb hb=>by
  refine E1_1 (AG b hb) λo e=>?_
  exact⟨λq=>by(have:=KN b o e;rw[q,Hr] at this;exact bR this),λq=>by(rw[q,Mx] at e;exact bR e)⟩
 have runs:Runs S f' target I xs n.X fp wr Sp n ⟨n.X,h3⟩ 0:=by
  refine⟨it,.refl _,it.frame 0 _ _ st λb hb o e=>KO b o e,λb hb=>?_,⟨nw,λb hb=>(aZ rel.inv (nw b hb)).1,λb hb=>(aZ rel.inv (nw b hb)).2⟩,λb hb=>off' b (nw b hb) (PN b (it.sub b hb)).1⟩
  rcases OF b hb with g | ⟨h1,o,h2⟩
  ·exact .inl g
  ·exact .inr ⟨(aZ rel.inv h1).1,⟨o,KO b o h2⟩,off' b h1 (PN b hb).1⟩
 have PW:D ∉ fp:=λq=>(PN D q).2 rfl
 have acc:Acc f' n ⟨n.X,h3⟩ D []:=⟨nD,(aZ rel.inv nD).1,(aZ rel.inv nD).2,off' D nD hDC,[],0,MU D _ Kv,.nil⟩
 have loop:dF (model S.prog S.w) f'.A (.compLoop (.ListComp elt [⟨target,iter,ifs,0⟩] scope pos) 0 (.ref I) (.ref D) f'.env) (jX (model S.prog S.w) f.A E use Qv (.ref D) C) ⟨h3,g,d,tk+0,os⟩:=by
  refine C4 (n:=⟨n.X,h3⟩) (qD hS JC Rl O Hz.names k) JC runs Sv QO PW acc hz (run f' Hz) λn' tk' ys τ MD ev' rel' a'=>?_
  refine A2 (Du (f':=f') rel hf rfl rfl nC own' ev' rel') λiw kK=>?_
  refine E2_2 a'.at_ λits j e1 e2=>?_
  have D1:=Ds D nD
  have qO:=kK.v8 e1 a'.own a'.G D1.1 D1.2 (e9 f)
  have pM:=iw.v8 (o:=fh its j) nD a'.G
  have C0:n'.X.own C=none∧n'.X.G C=none:=rel'.kB
  have gm:∀ c ob,n'.X.G c=some ob→(n'.X.jK D (fh its j)).G c=some ob:=λc ob e=>by
   show(if c=D then some _ else n'.X.G c)=some ob
   rw[if_neg];exact e
   rintro rfl;rw[a'.G] at e;exact bR e
  refine EY ⟨n'.X.jK D (fh its j),n'.h⟩ tk' ys τ D C MD pM qO (.list (its:=its) (n:=j) (if_pos rfl) (e2.mono gm)) nC C0.1 ?_ ?_
  ·show(if C=D then some _ else n'.X.G C)=none
   rw[if_neg (eW hDC)];exact C0.2
  ·refine E1_2 rel'.locs λm' hm' z_=>?_
   exact⟨m',hm'⟩
 exact xq loop (bS (runs.it.self 0 ⟨h3,g,d,tk+0,os⟩ _ _ runs.at_ loop))
end
noncomputable def JX{α:Type}(x:aJ)(k:aJ→List aJ→List jQ→Pos→α)(e:α):α:=gz (motive_1:=λz_=>α) x (λz_ z_ z_=>e) (λz_ z_ z_=>e) (λz_ z_ z_ z_=>e) (λz_ z_ z_=>e) (λz_ z_ z_ z_=>e) (λz_ z_ z_ z_=>e) (λz_ z_ z_=>e) (λz_ z_ z_=>e) (λz_ z_ z_ z_=>e) (λz_ z_ z_ z_=>e) (λz_ z_ z_ z_ z_=>e) (λz_ z_ z_ z_=>e) (λz_ z_=>e) (λz_ z_=>e) (λz_ z_=>e) (λz_ z_ z_ z_=>e) k (λz_ z_ z_ z_=>e) (λz_ z_=>e) (λz_ z_ z_=>e) (λz_ z_ z_=>e) (λz_ z_ z_=>e) (λz_ z_=>e) (λz_ z_=>e) (λz_ z_=>e) (λz_ z_ z_=>e) (λz_ z_ z_ z_=>e)
theorem DW{α:Type}{Pr:α→Prop}{y:aJ}{k:aJ→List aJ→List jQ→Pos→α}{e:α}(h:∀ g a ks q,y= .Call g a ks q→Pr (k g a ks q))(h':Pr e):Pr (JX y k e):=by
 cases y with
 | Call g a ks q=>exact h g a ks q rfl
 | _=>exact h'
noncomputable def HD(P:Pg)(x:Str):Bool:=aF (lk P.glob x) (λp=>RI p (λw=>qR w (λz_=>false) (λz_=>false) (λT=>decide (T="enumerate")||decide (T="zip")||decide (T="range")) false) false) false
noncomputable def p9{β:Type}(lv:Nat)(ih:Ih)(target iter:aJ)(k:List PV→M β):M β:=M.when (!lW iter) (M.when (aO 1 lv) ((ih.ev iter).andThen λv=>NX target v k))
noncomputable def xQ{β:Type}(P:Pg)(lv:Nat)(ih:Ih)(target iter:aJ)(k:List PV→M β):M β:=JX iter (λg args ks p=>Ad g (λx xp=>cond (HD P x)
  (M.when (dJ args) (M.when (gU ks) (M.when (aO 1 lv) ((ih.ev (.Name x xp)).andThen λfv=>E3 fv (λw=>qR w (λz_=>M.no) (λz_=>M.no) (λT=>(wK ih args).andThen λvs=>(AU ih ks).andThen λkv=>I7 target T vs kv k) M.no) M.no))))
  (p9 lv ih target iter k)) (p9 lv ih target iter k)) (p9 lv ih target iter k)
section
variable{S:Sx}{f:Fx}{sc:List (Str×aE)}{P:Pg}{ih:Ih}{n:Snap}{σ:St}
theorem BE{α β:Type}{R:Rc→α→β→Prop}(hI:dX S f ih)(hf:f.Ok){target iter:aJ}{rest:af→PT α}{k:List PV→M β}(hk:∀ n,Cont S f target R rest k n):
  Sd S f (λQ E s=>WP S f (eval iter f.env) (λx s₁=>WP S f (pyIter x) (λit s₂=>rest it Q E s₂) E s₁) E s) R (xQ P f.lv ih target iter k) n:=by
 have plain:Sd S f (λQ E s=>WP S f (eval iter f.env) (λx s₁=>WP S f (pyIter x) (λit s₂=>rest it Q E s₂) E s₁) E s) R (p9 f.lv ih target iter k) n:=
  bU λh1=>bU λh2=>Sd.bind (R':=RV) (U:=λx Q E s'=>WP S f (pyIter x) (λit s₂=>rest it Q E s₂) E s') (hI.ev _ n) λn1 jf v m hv=>Lg (hf.handled (gM h2)) hv (hk n1)
 refine DW (Pr:=λm=>Sd S f _ R m n) (λg args ks p e=>vZ (Pr:=λm=>Sd S f _ R m n) (λx xp e'=>kX (λz_=>bU λh1=>bU λh2=>bU λh3=>?_) λz_=>plain) plain) plain
 cases e;cases e'
 have hh:=hf.handled (gM h3)
 refine Sd.imp (T:=λQ E s=>WP S f (eval (.Name x xp) f.env) (λg s1=>WP S f (callWith p g [] (backTo p (starEach args f.env)) (backToKw p (keywordEach ks f.env))) (λx s'=>WP S f (pyIter x) (λit s₂=>rest it Q E s₂) E s') E s1) E s) ?_ (λQ E s h=>by
  show aA _ _ (do callWith p (←eval (.Name x xp) f.env) [] (backTo p (starEach args f.env)) (backToKw p (keywordEach ks f.env))) _ _ _
  exact ai h)
 refine Sd.bind (R':=RV) (hI.ev _ n) λn1 jf gv m hg=>?_
 refine JN (T:=λgv Q E s1=>WP S f (callWith p gv [] (backTo p (starEach args f.env)) (backToKw p (keywordEach ks f.env))) (λx s'=>WP S f (pyIter x) (λit s₂=>rest it Q E s₂) E s') E s1) hg (λw=>nE (λz_ z_=>.no) (λz_ z_=>.no) λT e=>?_) .no
 cases e
 exact Ec (U:=λx Q E s'=>WP S f (pyIter x) (λit s₂=>rest it Q E s₂) E s') hI h1 h2 (λz_ z_ z_=>⟨_,ql rfl⟩) λn2 iw vs args kvs kw hvs hkv=>HH hh hvs hkv (hk n2)
theorem xR{β:Type}{target iter:aJ}{k:List PV→M β}{lv:Nat}{σ:St}{Q:Res β→St→Prop}(h:xQ P lv ih target iter k σ Q):lW iter=false:=by
 cases iter <;> first | rfl | exact h.elim
theorem PM(hI:dX S f ih)(hf:f.Ok){L:au}(hL:f.env.frame=some L)(ho:∃ outer,f.fr=f.env::outer){target iter:aJ}{body:List dO}{pos:Pos}{Q:Res cj→St→Prop}{σ:St}
  (h:xQ P f.lv ih target iter (forM ih target body) σ Q):gE S f (.For target iter body [] pos) σ Q:=by
 refine⟨λn rel=>?_⟩
 have hs:=xR h
 refine(BE (R:=dc) (rest:=λit Q E s=>WP S f (runOwn (.forLoop target it body [] f.env) f.env) Q E s) hI hf (λn xs I h' σ Q rel l hm g d tk os Q' E' P'=>ES hI hf hL ho rel l hm P') σ Q rel h).imp λQ E s h=>?_
 show aA _ _ (do
  standAt pos
  let x ←foldedSetIterable iter f.env (←eval iter f.env)
  standAt iter.pos
  runOwn (.forLoop target (←holding [x] (pyIter x)) body [] f.env) f.env) _ _ _
 refine ai (bG (ai (aN h λx s' h'=>?_)))
 rw[qB hs]
 exact ai (aD (ai (bG (ai (aM h')))))
noncomputable def vh(S:Sx)(f:Fx)(P:Pg)(sc:List (Str×aE))(k:Nat)(target elt:aJ)(ifs:List aJ)(scope:nY)(xs:List PV):M MV:=λσ Q=>aO xs.length aB=true∧∃ fl,gx sc σ.locs scope.names=some fl∧
 ∀ f',InComp f f' sc scope→wu (oq S f' P (i7 sc scope.names) k) target elt ifs xs ⟨fl,σ.foot,σ.dom,[]⟩ λys τ=>Q (.ok (.pv (.list ys))) {σ with foot:=τ.foot,dom:=τ.dom}
theorem rj{names:List (Str×aE)}(nd:(names.map (·.1)).Nodup):∀ x ∈ names,x.2= .local→names.lookup x.1=some .local:=λx hx h=>by
 obtain⟨a,b⟩:=x
 cases h
 exact jN nd hx
theorem tg(hn:f.env.scope.names=sc){σ:St}(rel:bu S f σ n){names:List (Str×aE)}{fl:List (Str×MV)}(h:gx sc σ.locs names=some fl):∀ x ∈ frees names,∃ c,f.env.cells.lookup x=some c:=λx hx=>by
 refine E1_3 rel.locs λm hm l1 l2=>?_
 refine E1_2 ((pR h).all x hx) λmv LG hs=>?_
 refine E1_2 (l1 x mv LG) λv hv r=>?_
 rcases hs with hs | hs <;> (rw[ee hn x,hs] at r;obtain⟨c,o,r1,_⟩:=r;exact⟨c,r1⟩)
end
section
variable{S:Sx}{f:Fx}{sc:List (Str×aE)}{P:Pg}{ih:Ih}{n:Snap}{σ:St}
structure v7(scope:nY):Prop where
 kind:scope.kind= .function
 nodup:(scope.names.map (·.1)).Nodup
theorem Hf(hS:S.Ok)(hI:dX S f ih)(hf:f.Ok)(hnd:(f.env.cells.map (·.2)).Nodup)(O:ic S P)(hn:f.env.scope.names=sc){target elt iter:aJ}{ifs:List aJ}{scope:nY}{pos:Pos}(so:v7 scope){k:Nat}{Q:Res MV→St→Prop}
  (h0:(gx sc σ.locs scope.names).isSome=true)(h:xQ P f.lv ih target iter (vh S f P sc k target elt ifs scope) σ Q):sH S f (.ListComp elt [⟨target,iter,ifs,0⟩] scope pos) σ Q:=by
 refine⟨λn rel=>?_⟩
 have hs:=xR h
 obtain⟨Sz,Kw⟩:=fB.mp h0
 have hclos:=jw (scope:=scope) (tg hn rel Kw)
 refine(BE (R:=RV) (rest:=λit Q E s=>aA (model S.prog S.w) f.A (newList []) (λacc s₃=>aA (model S.prog S.w) f.A (newFunctionEnv scope f.env.globals (iU f.env.cells scope.names) [] f.env.qual none .none (some f.env)) (λcenv s₄=>
   dF (model S.prog S.w) f.A (.compStart (.ListComp elt [⟨target,iter,ifs,0⟩] scope pos) 0 it acc {cenv with scope:=relabel scope f.env}) (jX (model S.prog S.w) f.A E none Q acc cenv.locals) s₄) E s₃) E s) hI hf (λn xs I h' σ Q rel l hm g d tk os Q' E' P'=>?_) σ Q rel h).imp λQ E s h=>?_
 ·refine fO λzz=>?_
  obtain⟨hz,fl,hfl,run⟩:=hm
  refine zz ?_
  refine vj hS hf hnd O hn rel l (gM hz) so.kind so.nodup hfl run λn3 tk' ys τ D C hq pM qO pr nC oC gC hC=>?_
  obtain⟨m,hm⟩:=hC
  refine⟨m,hm,λh'' Cc=>?_⟩
  have kp:∀ b o,b ∉ [C]→n3.h.get? b=some o→h''.get? b=some o:=λb o hb e=>(Cc.2 b (λq=>hb (by rw[q];exact .head _))).trans e
  have fr:kN f n n3 [C]:=⟨λb hb=>by rw[az.mp hb];exact nC,λb hb=>by rw[az.mp hb];exact oC,λb hb=>by rw[az.mp hb];exact gC⟩
  have off:∀ b ∈ [C],b ∉ f.cZ∧b ∉ f.own:=fr.off rel.lives
  exact(P' ⟨n3.X,h''⟩ tk' _ (pM.wrote (f:=f) fr kp) (qO.wrote fr off (e9 f) kp)).1 _ hq _ (.pv pr)
 ·exact Fy (λz_ z_ z_=>rfl) rfl (λx=>qB hs f.env x) hclos so.kind (rj so.nodup) h
noncomputable def BG(sc:List (Str×aE))(x:Str)(xp:Pos)(scope:nY)(pos:Pos):Bool:=(match lk sc x with | some .local=>true | _=>false)&&xp.line == pos.line&& !(scope.names.any λ(n,k)=>n == x&&(k == .local||k == .cell))
theorem sP(hS:S.Ok)(hI:dX S f ih)(hf:f.Ok)(hnd:(f.env.cells.map (·.2)).Nodup)(O:ic S P)(hn:f.env.scope.names=sc){target elt iter:aJ}{ifs:List aJ}{scope:nY}{pos apos xp:Pos}{x:Str}(so:v7 scope){k:Nat}{Q:Res cj→St→Prop}
  (hsw:BG sc x xp scope pos=true)(h0:(gx sc σ.locs scope.names).isSome=true)
  (h:xQ P f.lv ih target iter (λxs=>(vh S f P sc k target elt ifs scope xs).andThen λv=>(ih.asg (.Name x xp) v).andThen λz_=>M.ret .next) σ Q):gE S f (.Assign [.Name x xp] (.ListComp elt [⟨target,iter,ifs,0⟩] scope pos) apos) σ Q:=by
 refine⟨λn rel=>?_⟩
 have hs:=xR h
 refine E1_1 (fB.mp h0) λSz Kw=>?_
 have hclos:=jw (scope:=scope) (tg hn rel Kw)
 let u:af→Sem Unit:=λv=>assignAll v ((assignEach [.Name x xp] f.env).map (·.2))
 refine(BE (R:=dc) (rest:=λit Q E s=>aA (model S.prog S.w) f.A (newList []) (λacc s₃=>aA (model S.prog S.w) f.A (newFunctionEnv scope f.env.globals (iU f.env.cells scope.names) [] f.env.qual none .none (some f.env)) (λcenv s₄=>
   dF (model S.prog S.w) f.A (.compStart (.ListComp elt [⟨target,iter,ifs,0⟩] scope pos) 0 it acc {cenv with scope:=relabel scope f.env}) (jX (model S.prog S.w) f.A E (some u) (λz_ s=>Q .next s) acc cenv.locals) s₄) E s₃) E s) hI hf (λn xs I h' σ Q rel l hm g d tk os Q' E' P'=>?_) σ Q rel h).imp λQ E s h=>?_
 ·refine fO λzz=>?_
  obtain⟨hz,fl,hfl,run⟩:=hm
  refine zz ?_
  refine vj hS hf hnd O hn rel l (gM hz) so.kind so.nodup hfl run λn3 tk' ys τ D C hq pM qO pr nC oC gC hC=>?_
  refine E1_1 hC λm hm=>?_
  have K8:C ∉ f.cZ∧C ∉ f.own:=by
   constructor
   ·intro q;obtain⟨o,e⟩:=rel.lives C (bN.mpr (.inl q));rw[nC] at e;exact bR e
   ·intro q;obtain⟨o,e⟩:=rel.lives C (bN.mpr (.inr q));rw[nC] at e;exact bR e
  refine hI.asg (.Name x xp) (.ref D) (.pv (.list ys)) n3 (.pv pr) _ _ qO hq g d tk' os _ _ λn4 RL RY Kn Im=>⟨λb hb b' z_=>?_,λt ht e fl=>?_⟩
  ·have wJ:=pM.trans Kn
   refine E3_2 hm λTr Sl Sk PU SN=>?_
   have SP:=(Kn.keep C _ PU oC K8.2).1 K8.1
   refine⟨m,⟨Tr,Sl,Sk,SP,SN⟩,λh'' Cc=>?_⟩
   have kp:∀ b o,b ∉ [C]→n4.h.get? b=some o→h''.get? b=some o:=λb o hb e=>(Cc.2 b (λq=>hb (by rw[q];exact .head _))).trans e
   have fr:kN f n n4 [C]:=⟨λb hb=>by rw[az.mp hb];exact nC,λb hb=>by rw[az.mp hb];exact Kn.iD PU oC,λb hb=>by rw[az.mp hb];exact q9 Kn PU oC gC (λq=>K8.2 (.tail _ q))⟩
   have off:∀ b ∈ [C],b ∉ f.cZ∧b ∉ f.own:=fr.off rel.lives
   exact(P' ⟨n4.X,h''⟩ RL RY (wJ.wrote (f:=f) fr kp) (Im.wrote fr off (e9 f) kp)).1 _ hb _ .next
  ·exact(P' n4 RL RY (pM.trans Kn) Im).2 t ht e (fl.older pM.live)
 ·have sw:swapsWith (.ListComp elt [⟨target,iter,ifs,0⟩] scope pos) (some (.Name x xp)) apos.line f.env=pure true:=by
   unfold BG at hsw
   refine A2 (aj.mp hsw) λhsw h3=>?_
   refine A2 (aj.mp hsw) λh1 h2=>?_
   have hk:f.env.kindOf x=some .local:=by
    rw[ee hn]
    split at h1
    ·assumption
    ·exact gy h1
   have hb:(f.env.blockKind == sL)=true:=by unfold Env.blockKind;rw[hf.kind];rfl
   show(pure (f.env.blockKind == sL&&f.env.kindOf x == some NameKind.local&&xp.line == pos.line&& !(scope.names.any λ(n,k)=>n == x&&(k == .local||k == .cell))):Sem Bool)=pure true
   rw[hb,hk,h2,h3];rfl
  have e1:exec (.Assign [.Name x xp] (.ListComp elt [⟨target,iter,ifs,0⟩] scope pos) apos) f.env=(do
    standAt apos
    if ←swapsWithSole [.Name x xp] (.ListComp elt [⟨target,iter,ifs,0⟩] scope pos) apos.line f.env then do
     evalThenUse (.ListComp elt [⟨target,iter,ifs,0⟩] scope pos) f.env u
     pure .next
    else do
     let v ←eval (.ListComp elt [⟨target,iter,ifs,0⟩] scope pos) f.env
     assignStores f.env v (←swappedStores [.Name x xp] (.ListComp elt [⟨target,iter,ifs,0⟩] scope pos) f.env) ((assignEach [.Name x xp] f.env).map (·.2))):=rfl
  have e2:swapsWithSole [.Name x xp] (.ListComp elt [⟨target,iter,ifs,0⟩] scope pos) apos.line f.env=pure true:=sw
  show aA _ _ (exec _ f.env) _ _ _
  rw[e1,e2]
  refine ai (bG (ai (aD (ai ?_))))
  show aA _ _ (do let _ ←comprehension (.ListComp elt [⟨target,iter,ifs,0⟩] scope pos) scope f.env (firstIterPos [⟨target,iter,ifs,0⟩] pos) (newList []) (firstAsync [⟨target,iter,ifs,0⟩]) (firstIter [⟨target,iter,ifs,0⟩] f.env) (some u)) _ _ _
  refine ai (Fy (use:=some u) (Q:=λz_ s=>aA (model S.prog S.w) f.A (pure ()) (λz_ s'=>aA (model S.prog S.w) f.A (pure Flow.next) Q E s') E s) (λz_ z_ z_=>rfl) rfl (λx=>qB hs f.env x) hclos so.kind (rj so.nodup) ?_)
  refine aN h λx s1 h1=>aN h1 λit s2 h2=>aN h2 λacc s3 h3=>aN h3 λcenv s4 h4=>ni h4 λr s' hr=>?_
  cases r with
  | error e=>exact hr
  | ok fl=>exact aN hr λ_ s'' ⟨m,hm,hq⟩=>⟨m,hm,λh' hs'=>aD (aD (hq h' hs'))⟩
end
section
open Builtin
section
variable{prog:cP}{w:cE}{A:bC}{K:Frag}{C:au}{R:j6→ah→Prop}{h:b9}{g:Array GenState}{d:Drawn}{t:Nat}{os:cT}
theorem K0{rest:List af}{kw:List (Str×af)}{init:af}(Y:Makes (model prog w) h C)(hi:cH (model prog w) h (typeLookup (.ref C) "__init__") (some init))
  (hb:∀ self,cH (model prog w) h (bindSpecial init self) (init,[self]))(hne:(some init != some (Value.builtin "object.__init__"))=true)
  (hq:dF (model prog w) (A.under (.builtin "type.__call__" ⟨.ref C::rest,kw⟩)) (.call init ⟨.ref (h.objs.size+1)::rest,kw⟩) (InitBack (h.objs.size+1) R) ⟨(h.push emptyDict).push (instObj C h.objs.size),g,d,t,os⟩):
  dF (model prog w) A (.call (.ref C) ⟨rest,kw⟩) R ⟨h,g,d,t,os⟩:=by
 have Y':=Y
 obtain⟨LA,made,base,self,top,call,typ⟩:=Y
 refine E4_4 LA λoc od cd sl hC e1 e2 e4=>?_
 refine gJ rfl ?_
 show aA _ _ (callAny (.ref C) _) _ _ _
 simp only[callAny]
 refine ai (bS (wpAny_load hC ?_))
 show aA _ _ (vf (.ref C) _) _ _ _
 unfold vf
 refine ai (fR call ?_)
 dsimp only
 rw[tc_bind]
 refine ai (aD (ai (aD ?_)))
 refine aD (a:=Fin.again (.call (.builtin "type.__call__") ⟨.ref C::rest,kw⟩)) ⟨rfl,rfl,?_⟩
 refine gJ rfl ?_
 show aA _ _ (do checkBuiltinCall "type.__call__" ⟨.ref C::rest,kw⟩;again (.builtin "type.__call__" ⟨.ref C::rest,kw⟩)) _ _ _
 refine ai (bS (check_slot tc_kind tc_split typ (tc_args _ _ _) (aD ⟨rfl,sG _ (by decide+kernel),ku rfl entry_typeCall ?_⟩)))
 have hm:cH (model prog w) h (mroOf (.ref C)) cd.mro:=((qp (part:=none) hC).andThen .now).andThen .now
 unfold fU.«type.__call__»
 dsimp only
 refine gI (λq=>gy q) ?_
 refine ai (fR hm ?_)
 refine gI (λq=>by rw[e4] at q;exact gy q) ?_
 refine ai (fR made ?_)
 dsimp only
 refine ai (aD (ai (aM (jo (FG (new_K Y' hi (.inl hne) ?_))))))
 dsimp only
 have k:∀ b o,h.get? b=some o→((h.push emptyDict).push (instObj C h.objs.size)).get? b=some o:=λb o e=>aq _ (aq _ e)
 have hx:((h.push emptyDict).push (instObj C h.objs.size)).get? (h.objs.size+1)=some (instObj C h.objs.size):=by
  have:=aL (h.push emptyDict) (o:=instObj C h.objs.size) rfl
  rw[eY] at this;exact this
 have t1:cH (model prog w) ((h.push emptyDict).push (instObj C h.objs.size)) (typeOf (.ref (h.objs.size+1))) (.ref C):=(qp hx).andThen .now
 have s1:=self.keeps k
 have i1:=hi.keeps k
 have b1:=(hb (.ref (h.objs.size+1))).keeps k
 have inst:cH (model prog w) ((h.push emptyDict).push (instObj C h.objs.size)) (isInstance (.ref (h.objs.size+1)) (.ref C)) true:=t1.andThen s1
 have spec:cH (model prog w) ((h.push emptyDict).push (instObj C h.objs.size)) (specialOf (.ref (h.objs.size+1)) (d_ "__init__")) (some init):=t1.andThen i1
 refine ai (fR (s:=⟨_,g,d,t,os⟩) inst ?_)
 refine gI (λq=>gy q) ?_
 refine ai (aM ?_)
 unfold callSpecial?
 refine ai (fR (s:=⟨_,g,d,t,os⟩) spec ?_)
 dsimp only
 refine aM (ai (fR (s:=⟨_,g,d,t,os⟩) b1 ?_))
 dsimp only
 refine ai (jo (ni hq λr s' z=>?_))
 rcases r with e | (v | _ | _ | _) <;> first | exact z | exact z.elim | skip
 obtain⟨rfl,z⟩:=z
 refine aD ?_
 refine gI (λq=>gy q) ?_
 exact aD z
end
end
section
variable{S:Sx}{fr:List Env}{F:br}{n:Snap}{l:Nat}
noncomputable def E6(k:Nat)(Q:Res MV→br→Prop)(r:Res MV)(F':br):Prop:=match r with
 | .ok (.pv .none)=>Q (.ok (.loc k)) F'
 | .ok _=>False
 | .exc t=>Q (.exc t) F'
theorem CRel.new{k:Nat}(cr:CRel S fr F (F.map (·.1)) n)(hk:k ∉ F.map (·.1))(o:eg)(h':b9)(a:au)(as:List au)(kp:∀ b ob,n.h.get? b=some ob→h'.get? b=some ob)(ho:gQ S (n.X.name k a as) h' k o)
  (hfp:∀ a ∈ as,n.h.get? a=none∧∃ o,h'.get? a=some o):dB [] (fr.filterMap (·.frame)) [] n ⟨n.X.name k a as,h'⟩∧CRel S fr ((k,o)::F) (k::F.map (·.1)) ⟨n.X.name k a as,h'⟩:=by
 have hkd:k ∉ n.X.dom:=by rw[cr.dom];exact hk
 refine A2 (r_ cr.inv hkd o h' a as kp ho hfp [] (fr.filterMap (·.frame)) []) λev inv=>?_
 exact⟨ev,cr.pN ev inv (by show k::n.X.dom=_;rw[cr.dom])⟩
theorem call_cls{C fI:au}(hS:S.Ok)(hm:makesIn S.K C=true)(hi:findIn S.K (.ref C) "__init__"=some (some (.ref fI)))(ht:typeIn S.K (.ref fI)=some (.type "function"))(hl:1≤l){k:Nat}{args:List MV}{kw:List (Str×MV)}{Q:Res MV→br→Prop}
  (hk:bL k (F.map (·.1))=false)(h:ao S (l-1) (.pv (.sv (.ref fI))) (.loc k::args) kw ((k,.inst C [])::F) (E6 k Q)):ao S l (.pv (.sv (.ref C))) args kw F Q:=by
 refine⟨λA fr n v vs kvs g d tk os R' room hh cr hv hvs hkv P'=>?_⟩
 cases nU hv with
 | sv=>
 have kb:∀ b o,S.h₀.get? b=some o→n.h.get? b=some o:=λb o e=>cr.inv.sub b o (cr.inv.base b o e)
 have XK:=hS.X.keeps kb
 refine K0 (makes_of XK hm) (looks_findIn XK hi) (λself=>bind_fn XK self ht) rfl ?_
 have z1:(n.h.push emptyDict).get? n.h.objs.size=some emptyDict:=aL _ rfl
 have z2:((n.h.push emptyDict).push (instObj C n.h.objs.size)).get? n.h.objs.size=some (gR [] 0):=aq _ z1
 have z3:((n.h.push emptyDict).push (instObj C n.h.objs.size)).get? (n.h.objs.size+1)=some (instObj C n.h.objs.size):=by
  have:=aL (n.h.push emptyDict) (o:=instObj C n.h.objs.size) rfl
  rw[eY] at this;exact this
 have kp:∀ b o,n.h.get? b=some o→((n.h.push emptyDict).push (instObj C n.h.objs.size)).get? b=some o:=λb o e=>aq _ (aq _ e)
 have n1:n.h.get? (n.h.objs.size+1)=none:=by
  cases q:n.h.get? (n.h.objs.size+1) with
  | none=>rfl
  | some o=>exact absurd (bB q) (kI.mpr (cD _))
 refine fO λzz=>?_
 obtain⟨ev,Pj⟩:=cr.new (jq hk) (.inst C []) ((n.h.push emptyDict).push (instObj C n.h.objs.size)) (n.h.objs.size+1) [n.h.objs.size+1,n.h.objs.size] kp
  (.inst (d:=n.h.objs.size) (es:=[]) (k:=0) (by simp only[if_true];exact z3) (by simp) z2 (by simp) .nil)
  (λa ha=>by
   simp only[ay,jI,or_false] at ha
   rcases ha with rfl | rfl
   ·exact⟨n1,_,z3⟩
   ·exact⟨bJ _,_,z2⟩)
 have le:n.X.le (n.X.name k (n.h.objs.size+1) [n.h.objs.size+1,n.h.objs.size]):=ev.le
 have self:aW (n.X.name k (n.h.objs.size+1) [n.h.objs.size+1,n.h.objs.size]) (.ref (n.h.objs.size+1)) (.loc k):=by
  have:=aW.loc (X:=n.X.name k (n.h.objs.size+1) [n.h.objs.size+1,n.h.objs.size]) (n:=k) (cR)
  simpa using this
 obtain⟨r1,r2,r3⟩:=room
 refine zz ?_
 refine h.run (A.under (.builtin "type.__call__" ⟨.ref C::vs,kvs⟩)) fr ⟨n.X.name k (n.h.objs.size+1) [n.h.objs.size+1,n.h.objs.size],_⟩ (.ref fI) (.ref (n.h.objs.size+1)::vs) kvs g d tk os _ ⟨by show pushEnvs [] A.frames=_;rw[r1];rfl,by show A.depth+1+_≤_;exact Rm hl r2 (by decide),by show A.units+1+_≤_;exact Rm hl r3 (by decide)⟩ hh Pj (.pv .sv) (.cons self (hvs.mono le)) (hkv.mono le)
  λn' tk' F' ev' C5=>⟨λm hq a ha=>?_,λt hq e fl=>?_⟩
 ·unfold E6 at hq
  split at hq
  ·rename_i e
   cases e
   cases GQ ha
   have BQ:n'.X.θ k=n.h.objs.size+1:=by
    rw[ev'.le.θ k cR]
    show(if k=k then _ else _)=_
    rw[if_pos rfl]
   have hd:k ∈ n'.X.dom:=ev'.le.dom k cR
   refine⟨rfl,(P' n' tk' F' (ev.trans ev') C5).1 _ hq _ ?_⟩
   rw[←BQ];exact .loc hd
  ·exact hq.elim
  ·rename_i e;cases e
 ·exact(P' n' tk' F' (ev.trans ev') C5).2 t hq e (fl.older ev.live)
end
noncomputable def JJ(l:List (Str×MV)):Option (List (Str×PV)):=bA (motive:=λz_=>Option (List (Str×PV))) (some []) (λp z_ q=>lg p.2 (λv=>aF q (λq=>some ((p.1,v)::q)) none) none) l
noncomputable def Cb(F:br)(Q:Res MV→br→Prop)(r:Res MV)(F':br):Prop:=Res.casesOn (motive:=λz_=>Prop) r (λm=>iK m (λk=>aF (cN F' k) (λo=>u_ o (λC fs=>aF (JJ fs) (λBj=>
 rK (DI (F.map (·.1)) ((iF F' k).map (·.1))&&ig ((iF F' k).map (·.1)) (iF F' k)) (∀ g,Q (.ok (.pv (.obj (some g) C Bj))) (iF F' k)) False) False) False) False) False) (λt=>Q (.exc t) F')
theorem Il{X:Rc}{fs:List (Str×MV)}:∀ {Bj:List (Str×PV)}{es:List dD},JJ fs=some Bj→fW X es fs→Am X.P X.G es Bj:=by
 induction fs with
 | nil=>intro Bj es e h;cases e;cases h.inv;exact .nil
 | cons p r ih=>
  obtain⟨x,m⟩:=p
  intro Bj es e h
  refine E3_3 h.inv λt v vs rU h1 h2=>?_
  subst rU
  cases m with
  | pv p=>
   have e:aF (JJ r) (λq=>some ((x,p)::q)) none=some Bj:=e
   cases q:JJ r with
   | none=>rw[q] at e;exact bR e
   | some q'=>rw[q] at e;cases e;exact .cons (nU h1) (ih q h2)
  | _=>exact bR e
theorem Am.mono{P:aV}{G G':au→Option Obj}(k:∀ a o,G a=some o→G' a=some o){fs:List (Str×PV)}:∀ {es},Am P G es fs→Am P G' es fs:=by
 induction fs with
 | nil=>intro es h;cases h.inv;exact .nil
 | cons p r ih=>intro es h;obtain⟨t,v,vs,rfl,h1,h2⟩:=h.inv;exact .cons (h1.mono k) (ih h2)
section
variable{S:Sx}{fr:List Env}{F:br}{n:Snap}{l:Nat}
theorem CRel.names{dom:List Nat}(cr:CRel S fr F dom n)(hi:ig (F.map (·.1)) F=true):CRel S fr F (F.map (·.1)) ⟨{n.X with dom:=F.map (·.1)},n.h⟩:=
 ⟨⟨cr.inv.P,cr.inv.base,cr.inv.sub,λk o e=>by
  have hk:=(mQ e).2
  exact⟨hk,gQ.part (X:=n.X) (X':={n.X with dom:=F.map (·.1)}) (ns:=F.map (·.1)) ⟨rfl,λz_ z_ e=>e,λz_ h=>h,λz_ z_=>rfl⟩ hk (λz_ h=>h) (cr.inv.foot k o e).2 (lV hi e)⟩,cr.inv.off⟩,rfl,cr.off,cr.frames⟩
set_option tactic.hygienic true in
theorem CRel.freeze{dom:List Nat}(cr:CRel S fr F dom n){k:Nat}{C:au}{fs:List (Str×MV)}{Bj:List (Str×PV)}(ho:cN F k=some (.inst C fs))(hp:JJ fs=some Bj):
  ∃ X',dB [] (fr.filterMap (·.frame)) [] n ⟨X',n.h⟩∧CRel S fr (iF F k) dom ⟨X',n.h⟩∧X'.θ=n.X.θ∧X'.dom=n.X.dom∧cy X'.P X'.G (.ref (n.X.θ k)) (.obj (some (n.X.θ k)) C Bj):=by
 refine fO λzz=>?_
 obtain⟨hd,or⟩:=cr.inv.foot k _ ho
 obtain⟨g1,o1,g2,o2,r⟩:=or.inv
 rename_i d es j
 have hne:n.X.θ k≠d:=λq=>by rw[q,g2] at g1;cases g1
 obtain⟨ev,inv⟩:=lQ (F':=iF F k) (h':=n.h) (own':=λa=>if n.X.own a=some k then none else n.X.own a) (G':=λa=>if a=n.X.θ k then some (instObj C d) else if a=d then some (gR es j) else n.X.G a) cr.inv hd
  (λb ob e z_=>e) (λb ob e=>⟨ob,e⟩)
  (λa i hi=>by
   show(if n.X.own a=some k then none else n.X.own a)=some i ↔ _
   by_cases q:n.X.own a=some k
   ·rw[if_pos q,q];constructor
    ·intro h;exact bR h
    ·intro h;cases h;exact absurd rfl hi
   ·rw[if_neg q])
  (λa ha=>by
   have ha:(if n.X.own a=some k then none else n.X.own a)=some k:=ha
   by_cases q:n.X.own a=some k
   ·rw[if_pos q] at ha;exact bR ha
   ·rw[if_neg q] at ha;exact absurd ha q)
  (λa o e=>by
   show(if a=n.X.θ k then _ else if a=d then _ else _)=_
   rw[if_neg,if_neg];exact e
   ·rintro rfl;rw[(cr.inv.off _ _ o2).1] at e;exact bR e
   ·rintro rfl;rw[(cr.inv.off _ _ o1).1] at e;exact bR e)
  (λa o e=>by
   have e:(if a=n.X.θ k then some (instObj C d) else if a=d then some (gR es j) else n.X.G a)=some o:=e
   by_cases q:a=n.X.θ k
   ·rw[if_pos q] at e;cases e;subst q;exact .inr ⟨.inl o1,g1⟩
   ·rw[if_neg q] at e
    by_cases q':a=d
    ·rw[if_pos q'] at e;cases e;subst q';exact .inr ⟨.inl o2,g2⟩
    ·rw[if_neg q'] at e;exact .inl e)
  (λi ob e=>by
   rw[mP] at e
   by_cases q:k=i
   ·rw[if_pos q] at e;exact bR e
   ·rw[if_neg q] at e;exact .inl ⟨eW q,e⟩) (fr.filterMap (·.frame))
 refine zz ?_
 refine⟨_,ev,cr.pN ev inv cr.dom,rfl,rfl,?_⟩
 refine .obj (d:=d) (es:=es) (n:=j) (λg e=>by cases e;rfl) (if_pos rfl) ?_ ((Il hp r).mono ev.le.G)
 show(if d=n.X.θ k then _ else if d=d then some (gR es j) else _)=_
 rw[if_neg (eW hne),if_pos rfl]
theorem ao.freeze{fv:MV}{args:List MV}{kw:List (Str×MV)}{Q:Res MV→br→Prop}(h:ao S l fv args kw F (Cb F Q)):ao S l fv args kw F Q:=by
 refine⟨λA fr n v vs kvs g d tk os R' room hh cr hv hvs hkv P'=>?_⟩
 refine h.run A fr n v vs kvs g d tk os R' room hh cr hv hvs hkv λn' tk' F' ev C5=>⟨λm hq a ha=>?_,λt hq e fl=>?_⟩
 ·cases m with
  | loc k=>
   have hq:aF (cN F' k) (λo=>u_ o (λC fs=>aF (JJ fs) (λBj=>rK (DI (F.map (·.1)) ((iF F' k).map (·.1))&&ig ((iF F' k).map (·.1)) (iF F' k)) (∀ g,Q (.ok (.pv (.obj (some g) C Bj))) (iF F' k)) False) False) False) False:=hq
   cases ho:cN F' k with
   | none=>rw[ho] at hq;exact hq.elim
   | some o=>
   rw[ho] at hq
   cases o with
   | inst C fs=>
    have hq:aF (JJ fs) (λBj=>rK (DI (F.map (·.1)) ((iF F' k).map (·.1))&&ig ((iF F' k).map (·.1)) (iF F' k)) (∀ g,Q (.ok (.pv (.obj (some g) C Bj))) (iF F' k)) False) False:=hq
    cases hp:JJ fs with
    | none=>rw[hp] at hq;exact hq.elim
    | some Bj=>
    rw[hp] at hq
    refine A2 (h_ hq) λhc hq=>?_
    refine A2 (aj.mp hc) λc1 c2=>?_
    refine E1_5 (C5.freeze ho hp) λX' iw Kc PC ed pr=>?_
    have Ey:=Kc.names c2
    have hs:=uh c1
    refine A2 (ur ha) λAf hd=>?_
    subst Af
    refine(P' _ tk' _ ?_ Ey).1 _ (hq (n'.X.θ k)) _ (.pv pr)
    have pL:=ev.trans iw
    exact⟨⟨pL.le.P,pL.le.G,λi hi=>hs i (by rw[←cr.dom];exact hi),λi hi=>pL.le.θ i hi⟩,pL.keep,pL.live,pL.mW,pL.jt⟩
   | _=>exact hq.elim
  | _=>exact hq.elim
 ·exact(P' n' tk' F' ev C5).2 t hq e fl
end
section
open Builtin Builtin.ObjectAttr
structure BU(S:Sx)(fI:au)(wO:eX)(mJ:List dO):Prop where
 cls:∃ od cd k0 k1 k2 k3 k5,S.K.lookup 52=some ⟨.type "type",od,.cls cd, #[k0,k1,k2,k3,some (.builtin "Exception.__new__"),k5]⟩∧cd.mro=wL∧cd.hasDel=false∧cd.hasDict=true
 call:specialIn S.K (.ref 52) "__call__"=some (some (.builtin "type.__call__"))
 typ:instIn S.K (.ref 52) (.type "type")=some true
 init:findIn S.K (.ref 52) "__init__"=some (some (.ref fI))
 MP:typeIn S.K (.ref fI)=some (.type "function")
 setattr:findIn S.K (.ref 52) "__setattr__"=some (some (.builtin "object.__setattr__"))
 told:findIn S.K (.ref 52) "told"=some none
 fn:D6 S fI wO mJ
section
variable{prog:cP}{w:cE}{A:bC}{E:af→ah→Prop}{K:Frag}{e:au}{oe:Obj}
theorem C7{h:b9}{g:Array GenState}{d:Drawn}{t:Nat}{os:cT}{v:af}{Q:Unit→ah→Prop}(X:K.In h)(he:h.get? e=some oe)(hc:oe.cls= .ref 52)(hd:oe.dict=none){vs:Array af}(hv:oe.data= .fields vs)
  (hk:∃ cd,clsIn K 52=some cd∧cd.mro=wL∧cd.hasDict=true)(hs:findIn K (.ref 52) "__setattr__"=some (some (.builtin "object.__setattr__")))(ht:findIn K (.ref 52) "told"=some none)
  (hQ:∀ h' k t₁ t₂ D,h.get? D=none→(∀ b o,b≠e→h.get? b=some o→h'.get? b=some o)→h'.get? e=some {oe with dict:=some D}→h'.get? D=some (gR [⟨aU w.params "told",.str "told" t₁,v⟩] k)→Q () ⟨h',g,d,t₂,os⟩):
  wpAny (model prog w) A (setAttr (.ref e) "told" v) Q E ⟨h,g,d,t,os⟩:=by
 have I:W.InstAt h e oe 52 none:=⟨he,hc,by unfold notCls;rw[hv],by rw[hd];trivial⟩
 refine E1_3 hk λcd hcl nQ Hs=>?_
 refine set_plain (s:=⟨h,g,d,t,os⟩) X I hs ?_
 have SF:=PySem.F.store_Exception
 have ne:cd.mro.isEmpty=false:=by rw[nQ];rfl
 have sub:cH (model prog w) h (isInstance (.ref e) (.type "object")) true:=I.type.andThen (looks_mroIn X (by unfold mroIn;rw[hcl,Option.bind_some,if_neg (by rw[ne];decide),nQ];rfl))
 refine codeAny_call_builtin SF.slot.plain SF.entry (@check_slot (model prog w) _ _ ⟨h,g,d,t+1,os⟩ "object.__setattr__" "object" "__setattr__" (.ref e) [.str "told" t,v] [] _ SF.kind SF.split sub (SF.args (.ref e) (.str "told" t) v) ?_)
 have hm:cH (model prog w) h (mroOf (.ref 52)) cd.mro:=(looks_clsIn X hcl).andThen .now
 rw[osa_eq,refuse_eq]
 refine wpAny_bind (wpAny_bind (I.type.here (s:=⟨h,g,d,t+1,os⟩) (wpAny_bind (hm.here ?_))))
 rw[nQ,refuseLoop_ref,refuseLoop_ref,SF.passes]
 refine wpAny_pure (wpAny_bind (I.type.here (s:=⟨h,g,d,t+1,os⟩) (wpAny_bind ((looks_findIn X ht).here (s:=⟨h,g,d,t+1,os⟩) (wpAny_bind (wpAny_pure ?_))))))
 dsimp only
 unfold storeInOwnDict
 refine wpAny_bind (m:=ownStreamTells (.ref e) (.ref 52)) (wpAny_pure ?_)
 refine wpAny_ite ?_
 rw[if_neg (by decide)]
 refine fO λzz=>?_
 obtain⟨oc,Tv,Tu,osl⟩:=oe
 refine zz ?_
 dsimp only at hc hd hv
 subst hc hd hv
 refine wpAny_bind ?_
 unfold ownDictForStores instanceDict
 refine wpAny_bind (wpAny_loadPart (s:=⟨h,g,d,t+1,os⟩) he ?_)
 dsimp only
 refine wpAny_bind (looks_clsIn X hcl _ _ _ _ (λz_ z_ e=>e) ?_)
 rw[Hs]
 refine wpAny_ite ?_
 rw[if_neg (by decide)]
 refine wpAny_ite ?_
 rw[if_neg (by simp[typeHasDict])]
 have Ji:(h.push {cls:=.type "dict",data:=.dict #[]}).get? e=some {cls:=.ref 52,data:=.fields vs,slots:=osl}:=aq _ he
 have hxs:e≠h.objs.size:=fy (bB he)
 refine wpAny_bind (wpAny_alloc' ?_)
 refine wpAny_bind (wpAny_update' Ji ?_)
 refine wpAny_pure ?_
 dsimp only
 have hgd:((h.push {cls:=.type "dict",data:=.dict #[]}).update e λo=>{cls:=o.cls,dict:=some h.objs.size,data:=o.data,slots:=o.slots}).get? h.objs.size=some (gR [] 0):=
  (Heap.get?_update_ne _ _ _ _ hxs.symm).trans (Heap.get?_push_at rfl rfl)
 have hge:((h.push {cls:=.type "dict",data:=.dict #[]}).update e λo=>{cls:=o.cls,dict:=some h.objs.size,data:=o.data,slots:=o.slots}).get? e=some {cls:=.ref 52,dict:=some h.objs.size,data:=.fields vs,slots:=osl}:=
  dh _ Ji rfl
 have LJ:∀ b o,b≠e→h.get? b=some o→((h.push {cls:=.type "dict",data:=.dict #[]}).update e λo=>{cls:=o.cls,dict:=some h.objs.size,data:=o.data,slots:=o.slots}).get? b=some o:=λb o hb eb=>
  (Heap.get?_update_ne _ _ _ _ hb).trans (aq _ eb)
 unfold storeInDict newKeyGuard
 refine wpAny_bind (wpAny_pure (wpAny_bind ?_))
 unfold nsSet
 refine wpAny_bind (wpAny_bind (wpAny_askSetting (wpAny_pure (wpAny_bind (wpAny_mkText (wpAny_bind (wpAny_loadPart hgd ?_)))))))
 dsimp only
 rw[aRefKeyMayBeTheName_at]
 refine wpAny_ite ?_
 rw[if_neg (by simp)]
 have pn:=putName_dict "told" (aU w.params "told") (.str "told" (t+1)) v [] 0
 refine wpAny_updatePart hgd ?_
 have Rx:(((h.push {cls:=.type "dict",data:=.dict #[]}).update e λo=>{cls:=o.cls,dict:=some h.objs.size,data:=o.data,slots:=o.slots}).update h.objs.size (j4 "told" (aU w.params "told") (.str "told" (t+1)) v)).get? h.objs.size=some (gR [⟨aU w.params "told",.str "told" (t+1),v⟩] (putN "told" [] 0)):=by
  have:=dh (j4 "told" (aU w.params "told") (.str "told" (t+1)) v) hgd (by rw[show gR [] 0=dictOf [] 0 from rfl,pn];rfl)
  rw[show gR [] 0=dictOf [] 0 from rfl,pn] at this
  exact this
 refine wpAny_bind (wpAny_lookBehind Rx ?_ ?_)
 ·refine pastItsLine_dict ?_
  rw[sizeLine_eq];simp
 ·refine wpAny_pure (hQ _ _ _ _ _ (bJ _) (λb o hb eb=>?_) ?_ Rx)
  ·have PY:b≠h.objs.size:=fy (bB eb)
   exact(cg _ _ (eW PY)).trans (LJ b o hb eb)
  ·exact(cg _ _ (eW hxs)).trans hge
end
end
end Mine
end
section
open PySem
namespace Mine
section
set_option tactic.hygienic true
open Builtin Builtin.ObjectAttr
open Sem (wp)
noncomputable abbrev mO:List af:=[.ref 39,.type "Exception",.type "BaseException",.type "object"]
section
variable{prog:cP}{w:cE}{A:bC}{R:j6→ah→Prop}{h:b9}{g:Array GenState}{d:Drawn}{t:Nat}{os:cT}
variable{nm q:Str}{N:au}{bs:List af}{hdct:Bool}{sn:List Str}{sub:List af}{ab:Bool}{col:Option Bool}{dd:Option au}{k0 k1 k2 k3 k5:Option af}
theorem Ho{rest:List af}(hC:h.get? 52=some (excClassObj nm q 52 N bs mO hdct sn sub ab col dd k0 k1 k2 k3 k5 "Exception.__new__"))
  (hq:R (.ok (.ret (.ref (h.objs.size+1)))) ⟨(h.push {cls:=.type "tuple",data:=.seq rest.toArray}).push
   {cls:=.ref 52,data:=.fields #[.ref h.objs.size,.none,.none,.none,.bool false,.none]},g,d,t,os⟩)(hrest:rest.length≤sizeLine):
  codeAny (model prog w) A (.builtin "Exception.__new__" ⟨.ref 52::rest,[]⟩) R ⟨h,g,d,t,os⟩:=by
 have Fn:=PySem.F.excBase_Exception
 have Rw:=Fn.ends
 have PZ:(fY 52::mO).contains (.type "Exception")=true:=by decide
 have SR:(fY 52::mO).contains (.type "AttributeError")=false:=by decide
 have hcN:(fY 52::mO).contains (.type "NameError")=false:=by decide
 refine codeAny_builtinAt Fn.entry ?_
 unfold fU.«BaseException.__new__»
 refine wpAt_bind ?_
 show wpAt _ _ _ (stack>>=_) _ _ _
 refine wpAt_bind (wpAt_stack λp below=>wpAt_of_wpAny ?_)
 wp_walk
 refine wpAt_of_wpAny ?_
 rw[Fn.owner]
 repeat (first | with_reducible refine wpAny_madeHere_exc Fn.canon hC ?_ | with_reducible refine wpAny_loadPart_at hC ?_ | (with_reducible refine wpAny_isSubtype_exc hC ?_;first | rw[PZ] | rw[SR] | rw[hcN]) | wp_step)
 show R _ _
 rw[eY]
 exact hq
theorem wM{rest:List af}(hC:h.get? 52=some (excClassObj nm q 52 N bs mO hdct sn sub ab col dd k0 k1 k2 k3 k5 "Exception.__new__"))
  (hq:R (.ok (.ret (.ref (h.objs.size+1)))) ⟨(h.push {cls:=.type "tuple",data:=.seq rest.toArray}).push
   {cls:=.ref 52,data:=.fields #[.ref h.objs.size,.none,.none,.none,.bool false,.none]},g,d,t,os⟩)(hrest:rest.length≤sizeLine):
  codeAny (model prog w) A (.call (.builtin "Exception.__new__") ⟨.ref 52::rest,[]⟩) R ⟨h,g,d,t,os⟩:=by
 have Fn:=PySem.F.excBase_Exception
 have MB:(fY 52::mO).contains (.type "Exception")=true:=by decide
 refine codeAny_call_builtin_code (sG _ Fn.quiet) ?_
 simp only[checkBuiltinCall,Fn.newKind,Fn.newSplit,Fn.newRow]
 repeat (first | refine wpAny_loadPart_at hC ?_ | (refine wpAny_isSubtype_exc hC ?_;rw[MB]) | refine wpAny_staticBase_exc hC ?_ | refine wpAny_madeBy_exc hC ?_ | simp only[bne_self_eq_false,Bool.false_eq_true,if_false] | wp_step)
 exact Ho hC hq hrest
end
end
end Mine
end
section
open PySem PySem.W PyProof.Rows PySem.Spec PySem.Calls
namespace Mine
section
open Builtin
noncomputable abbrev iG(tp:au):Obj:={cls:=.ref 52,data:=.fields #[.ref tp,.none,.none,.none,.bool false,.none]}
section
variable{prog:cP}{w:cE}{A:bC}{R:j6→ah→Prop}{h:b9}{g:Array GenState}{d:Drawn}{t:Nat}{os:cT}
variable{nm q:Str}{N:au}{bs:List af}{hdct:Bool}{sn:List Str}{sub:List af}{ab:Bool}{col:Option Bool}{dd:Option au}{k0 k1 k2 k3 k5:Option af}
theorem EK{rest:List af}{init:af}(hC:h.get? 52=some (excClassObj nm q 52 N bs mO hdct sn sub ab col dd k0 k1 k2 k3 k5 "Exception.__new__"))
  (call:cH (model prog w) h (specialOf (.ref 52) "__call__") (some (.builtin "type.__call__")))(typ:cH (model prog w) h (isInstance (.ref 52) (.type "type")) true)
  (hi:cH (model prog w) h (typeLookup (.ref 52) "__init__") (some init))(hb:∀ self,cH (model prog w) h (bindSpecial init self) (init,[self]))(hrest:rest.length≤sizeLine)
  (hq:dF (model prog w) (A.under (.builtin "type.__call__" ⟨.ref 52::rest,[]⟩)) (.call init ⟨.ref (h.objs.size+1)::rest,[]⟩) (InitBack (h.objs.size+1) R) ⟨(h.push {cls:=.type "tuple",data:=.seq rest.toArray}).push (iG h.objs.size),g,d,t,os⟩):
  dF (model prog w) A (.call (.ref 52) ⟨rest,[]⟩) R ⟨h,g,d,t,os⟩:=by
 refine gJ rfl ?_
 show aA _ _ (callAny (.ref 52) _) _ _ _
 simp only[callAny]
 refine ai (bS (wpAny_load hC ?_))
 show aA _ _ (vf (.ref 52) _) _ _ _
 unfold vf
 refine ai (fR call ?_)
 dsimp only
 rw[tc_bind]
 refine ai (aD (ai (aD ?_)))
 refine aD (a:=Fin.again (.call (.builtin "type.__call__") ⟨.ref 52::rest,[]⟩)) ⟨rfl,rfl,?_⟩
 refine gJ rfl ?_
 show aA _ _ (do checkBuiltinCall "type.__call__" ⟨.ref 52::rest,[]⟩;again (.builtin "type.__call__" ⟨.ref 52::rest,[]⟩)) _ _ _
 refine ai (bS (check_slot tc_kind tc_split typ (tc_args _ _ _) (aD ⟨rfl,sG _ (by decide+kernel),ku rfl entry_typeCall ?_⟩)))
 unfold fU.«type.__call__»
 dsimp only
 refine gI (λq=>gy q) ?_
 refine ai (bS (wpAny_mroOf_exc hC ?_))
 refine gI (λq=>gy q) ?_
 refine ai (bS (wpAny_madeBy_exc hC ?_))
 dsimp only
 refine ai (aD (ai (aM (jo (FG (wM hC ?_ hrest))))))
 dsimp only
 have k:∀ b o,h.get? b=some o→((h.push {cls:=.type "tuple",data:=.seq rest.toArray}).push (iG h.objs.size)).get? b=some o:=λb o e=>aq _ (aq _ e)
 have hx:((h.push {cls:=.type "tuple",data:=.seq rest.toArray}).push (iG h.objs.size)).get? (h.objs.size+1)=some (iG h.objs.size):=by
  have:=aL (h.push {cls:=.type "tuple",data:=.seq rest.toArray}) (o:=iG h.objs.size) rfl
  rw[eY] at this;exact this
 have t1:cH (model prog w) ((h.push {cls:=.type "tuple",data:=.seq rest.toArray}).push (iG h.objs.size)) (typeOf (.ref (h.objs.size+1))) (.ref 52):=(qp hx).andThen .now
 have s1:cH (model prog w) ((h.push {cls:=.type "tuple",data:=.seq rest.toArray}).push (iG h.objs.size)) (isSubtype (.ref 52) (.ref 52)) true:=λA Q E s kk qq=>by
  obtain⟨hh,gg,d',t',os'⟩:=s
  exact wpAny_isSubtype_exc (kk _ _ (k _ _ hC)) qq
 have i1:=hi.keeps k
 have b1:=(hb (.ref (h.objs.size+1))).keeps k
 have inst:cH (model prog w) ((h.push {cls:=.type "tuple",data:=.seq rest.toArray}).push (iG h.objs.size)) (isInstance (.ref (h.objs.size+1)) (.ref 52)) true:=t1.andThen s1
 have spec:cH (model prog w) ((h.push {cls:=.type "tuple",data:=.seq rest.toArray}).push (iG h.objs.size)) (specialOf (.ref (h.objs.size+1)) (d_ "__init__")) (some init):=t1.andThen i1
 refine ai (fR (s:=⟨_,g,d,t,os⟩) inst ?_)
 refine gI (λq=>gy q) ?_
 refine ai (aM ?_)
 unfold callSpecial?
 refine ai (fR (s:=⟨_,g,d,t,os⟩) spec ?_)
 dsimp only
 refine aM (ai (fR (s:=⟨_,g,d,t,os⟩) b1 ?_))
 dsimp only
 refine ai (jo (ni hq λr s' z=>?_))
 rcases r with e | (v | _ | _ | _) <;> first | exact z | exact z.elim | skip
 obtain⟨rfl,z⟩:=z
 refine aD ?_
 refine gI (λq=>gy q) ?_
 exact aD z
end
end
section
variable{S:Sx}{A:bC}{fI:au}{wO:eX}{mJ:List dO}
structure Aj(S:Sx)(wO:eX)(mJ:List dO):Prop where
 body:∃ p1 p2 p3 p4,mJ=[.Assign [.Attribute (.Name "self" p1) "told" p2] (.Name "told" p3) p4]
 names:wO.scope.names=[(("self":Str),NameKind.local),(("told":Str),NameKind.local)]
 bind:∀ a b St,peek S.K St (bindArgs wO ⟨[a,b],[]⟩)=some [(("self":Str),a),(("told":Str),b)]
theorem EJ(hS:S.Ok)(O:Aj S wO mJ)(X:BU S fI wO mJ){h:b9}{e:au}{oe:Obj}{g d t os}{v:af}{R:j6→ah→Prop}(kb:∀ b o,S.h₀.get? b=some o→h.get? b=some o)(room:A.depth+1≤900)
  (he:h.get? e=some oe)(hc:oe.cls= .ref 52)(hd:oe.dict=none){vs:Array af}(hv:oe.data= .fields vs)
  (hR:∀ h' k t₁ t₂ D,h.get? D=none→D≠e→(∀ b o,b≠e→h.get? b=some o→h'.get? b=some o)→h'.get? e=some {oe with dict:=some D}→h'.get? D=some (gR [⟨aU S.w.params "told",.str "told" t₁,v⟩] k)→R (.ok (.ret .none)) ⟨h',g,d,t₂,os⟩):
  dF (model S.prog S.w) A (.call (.ref fI) ⟨[.ref e,v],[]⟩) R ⟨h,g,d,t,os⟩:=by
 have HF:=X.fn
 have XK:=hS.X.keeps kb
 refine E1_2 HF.at_ λo ho hdt=>?_
 refine E4_1 O.body λp1 p2 p3 p4 hbody=>?_
 refine jr (s:=⟨h,g,d,t,os⟩) (by show A.depth<1000;exact kH room (by decide)) (XK _ _ ho) hdt HF.co HF.gen HF.body (HF.code.keeps kb) ?_
 refine fR (Looks.of_peek XK (O.bind _ _ _)) ?_
 rw[HF.closure]
 refine bS (wpAny_newFunctionEnv (λx hx=>?_) (λx hx=>?_) (λh' hns Cc=>?_) HF.kind)
 ·rw[O.names] at hx
  simp only[ay,jI,or_false] at hx
  rcases hx with rfl | rfl <;> (intro q;cases q)
 ·rw[O.names]
  simp only[ay,jI,or_false] at hx
  rcases hx with rfl | rfl <;> rfl
 dsimp only at hns Cc ⊢
 have kp:∀ b o,h.get? b=some o→h'.get? b=some o:=λb o eb=>(Cc.2 b (fy (bB eb))).trans (aq _ eb)
 refine⟨HF.lim.keeps λb o eb=>kp b o (kb b o eb),xr ?_⟩
 generalize tw:newEnv wO.scope h.objs.size wO.globals [] (wO.qualname++".<locals>.") (some fI) wO.code none wO.builtins=env
 have eL:env.locals=h.objs.size:=by rw[←tw];rfl
 have ek:env.scope.kind= .function:=by rw[←tw];exact HF.kind
 have k1:env.kindOf "told"=some .local:=by rw[←tw];show wO.scope.names.lookup ("told":Str)=_;rw[O.names];rfl
 have k2:env.kindOf "self"=some .local:=by rw[←tw];show wO.scope.names.lookup ("self":Str)=_;rw[O.names];rfl
 rw[hbody]
 have MJ:h'.Ns env.locals (λx=>[(("self":Str),fY e),("told",v)].reverse.lookup x):=by rw[eL];exact hns
 refine pZ (bS (plainObj_wpAny_Assign_Attribute ?_))
 refine wpAny_Name (wpAny_loadName_local ek k1 MJ (by rfl) ?_) (by decide)
 refine wpAny_Name (wpAny_loadName_local ek k2 MJ (by rfl) ?_) (by decide)
 refine E7_4 X.cls λod cd c0 c1 c2 c3 c5 hlk nQ z_ Hs=>?_
 have he':=kp e oe he
 refine C7 (XK.keeps kp) he' hc hd hv ⟨cd,by unfold clsIn;rw[hlk],nQ,Hs⟩ X.setattr X.told λh'' k t₁ t₂ D nD OL ge gD=>?_
 have Nd:h.get? D=none:=dg (λb o eb=>⟨o,kp b o eb⟩) nD
 refine aD (hR h'' k t₁ t₂ D Nd (λq=>?_) (λb o hb eb=>OL b o hb (kp b o eb)) ge gD)
 rw[q,he'] at nD;exact Ag nD
end
section
variable{S:Sx}{f:Fx}{sc:List (Str×aE)}{P:Pg}{n:Snap}{σ:St}{fI:au}{wO:eX}{mJ:List dO}
theorem yz{prog:cP}{w:cE}{A:bC}{E:af→ah→Prop}{env:Env}{s:ah}{b:List UInt8}{k:Nat}{p:Pos}{Q:af→ah→Prop}(h:Q (.bytes b.toArray s.toks) {s with toks:=s.toks+1}):wpAny (model prog w) A (eval (.Constant (.bytes b) k p) env) Q E s:=λz_ z_ z_=>h
theorem xm{prog:cP}{w:cE}{A:bC}{E:af→ah→Prop}{env:Env}{s:ah}{nm q:Str}{N:au}{bs:List af}{hdct:Bool}{sn:List Str}{sub:List af}{ab:Bool}{col:Option Bool}{dd:Option au}{k0 k1 k2 k3 k5:Option af}
  {x:Sem af}{Q:Flow→ah→Prop}(hh:A.handled=none)
  (h:aA (model prog w) A x (λv s₁=>∃ e tp D,v= .ref e∧s₁.heap.get? 52=some (excClassObj nm q 52 N bs mO hdct sn sub ab col dd k0 k1 k2 k3 k5 "Exception.__new__")∧
   s₁.heap.get? e=some {iG tp with dict:=some D}∧E (.ref e) s₁) E s):aA (model prog w) A (raiseStmt env (some x) none) Q E s:=by
 have PZ:(fY 52::mO).contains (.type "BaseException")=true:=by decide
 unfold raiseStmt
 refine ai (aN h λv s₁ h₁=>bS ?_)
 refine E3_4 h₁ λe tp D rU hC he hE=>?_
 subst rU
 obtain⟨hp,g,d,tk,os⟩:=s₁
 repeat (first | with_reducible refine wpAny_loadPart_at he ?_ | with_reducible refine wpAny_loadPart_at hC ?_ | (with_reducible refine wpAny_isSubtype_exc hC ?_;rw[PZ]) | wp_step)
 exact wpAny_raiseNew_none hh hE
theorem Ge(hS:S.Ok)(hf:f.Ok)(O:ic S P)(hn:f.env.scope.names=sc)(I:Aj S wO mJ)(X:BU S fI wO mJ){x:Str}{np cp cpos pos:Pos}{ck:Nat}{b:List UInt8}{Q:Res cj→St→Prop}(hx:ri x=false)(hl:1≤f.lv)(hsc:lk sc x=some .globalImplicit)(hg:lk P.glob x=some (.sv (.ref 52)))(hk:keepIn S.K (.ref 52)=true)
  (hq:Q (.exc b) σ):gE S f (.Raise (some (.Call (.Name x np) [.Constant (.bytes b) ck cp] [] cpos)) none pos) σ Q:=by
 refine⟨λn rel g d tk os Q' E' P'=>?_⟩
 have hh:=hf.handled hl
 have kb:=rel.dU
 have XK:=hS.X.keeps kb
 refine E7_4 X.cls λod cd c0 c1 c2 c3 c5 hlk nQ EX Hs=>?_
 have SM:=XK _ _ hlk
 obtain⟨Pf,cbs,Pe,sX,cq,R7,Pk,Kd,Pc,J9,Pd⟩:=cd
 dsimp only at nQ EX Hs SM
 subst nQ EX Hs
 have key:∀ n,bu S f σ n→∀ g d tk os (Q':Flow→ah→Prop) (E':af→ah→Prop),(∀ n' tk' σ',dB f.own f.cZ f.cl n n'→bu S f σ' n'→(∀ b,Q (.ok b) σ'→∀ a,dc n'.X a b→Q' a ⟨n'.h,g,d,tk',os⟩)∧(∀ t,Q (.exc t) σ'→∀ e,eN f.L t n.h e n'→E' (.ref e) ⟨n'.h,g,d,tk',os⟩))→
   aA (model S.prog S.w) f.A (callWith cpos (.ref 52) [] (backTo cpos (starEach [.Constant (.bytes b) ck cp] f.env)) (backToKw cpos (keywordEach [] f.env))) (λv s₁=>∃ e tp D,v= .ref e∧s₁.heap.get? 52=some (excClassObj Pf cq 52 sX cbs mO true Pk Kd Pc J9 od c0 c1 c2 c3 c5 "Exception.__new__")∧
    s₁.heap.get? e=some {iG tp with dict:=some D}∧E' (.ref e) s₁) E' ⟨n.h,g,d,tk,os⟩:=by
  intro n rel g d tk os Q' E' P'
  have kb:=rel.dU
  have XK:=hS.X.keeps kb
  have hC:=XK _ _ hlk
  refine B3 rfl rfl (kq (bS (yz (k:=ck) (p:=cp) (ly (aD ⟨?_,jo ?_⟩)))))
  ·refine E1_2 (looks_keep (M:=model S.prog S.w) hk XK) λk z_ L=>?_
   exact⟨k,L⟩
  show dF _ _ (.call (.ref 52) ⟨[.bytes b.toArray tk],[]⟩) _ _
  have x_:n.h.get? (n.h.objs.size+1)=none:=by
   cases q:n.h.get? (n.h.objs.size+1) with
   | none=>rfl
   | some o=>exact absurd (bB q) (kI.mpr (cD _))
  refine EK hC (looks_specialIn XK X.call) (looks_instIn XK X.typ) (looks_findIn XK X.init) (λself=>bind_fn XK self X.MP) (cB (by rw[sizeLine_eq];rfl)) ?_
  have LJ:∀ c o,n.h.get? c=some o→((n.h.push {cls:=.type "tuple",data:=.seq [pD b.toArray tk].toArray}).push (iG n.h.objs.size)).get? c=some o:=λc o e=>aq _ (aq _ e)
  have he:((n.h.push {cls:=.type "tuple",data:=.seq [pD b.toArray tk].toArray}).push (iG n.h.objs.size)).get? (n.h.objs.size+1)=some (iG n.h.objs.size):=by
   have:=aL (n.h.push {cls:=.type "tuple",data:=.seq [pD b.toArray tk].toArray}) (o:=iG n.h.objs.size) rfl
   rw[eY] at this;exact this
  have hroom:=hf.room.depth
  refine EJ hS I X (λb o e=>LJ b o (kb b o e)) (by show f.A.depth+1+1≤900;exact aa (bD (aa (aT _ _) hroom) 2) (by decide)) he rfl rfl rfl λh' k t₁ t₂ D nD De KP ge gD=>⟨rfl,n.h.objs.size+1,n.h.objs.size,D,rfl,?_,ge,?_⟩
  ·exact KP _ _ (λq=>by rw[←q] at x_;rw[hC] at x_;exact Ag x_) (LJ _ _ hC)
  ·have kp:∀ b o,n.h.get? b=some o→h'.get? b=some o:=λb o eb=>KP b o (λq=>by rw[q,x_] at eb;exact bR eb) (LJ b o eb)
   have Nd:n.h.get? D=none:=dg (λb o eb=>⟨o,LJ b o eb⟩) nD
   have ev:dB [] f.cZ [] n ⟨n.X,h'⟩:=dB.grow kp
   have eP:n.X.P=S.w.params:=rel.inv.P
   refine(P' ⟨n.X,h'⟩ t₂ σ ev.wide (rel.pN ev (rel.inv.grow kp) rel.dom rfl rfl)).2 b hq (n.h.objs.size+1) (.mk (t:=t₁) (u:=tk) (k:=k) (eW De) ⟨x_,(aZ rel.inv x_).1,(aZ rel.inv x_).2⟩ ⟨Nd,(aZ rel.inv Nd).1,(aZ rel.inv Nd).2⟩ ge rfl rfl rfl ?_ (.inl rfl))
   show h'.get? D=some (gR [⟨aU n.X.P "told",.str "told" t₁,.bytes b.toArray tk⟩] k)
   rw[eP];exact gD
 show aA _ _ (do standAt pos;raiseStmt f.env (some (do let v ←eval (.Call (.Name x np) [.Constant (.bytes b) ck cp] [] cpos) f.env;standAt pos;pure v)) none) _ _ _
 refine ai (bG (xm (nm:=Pf) (q:=cq) (N:=sX) (bs:=cbs) (hdct:=true) (sn:=Pk) (sub:=Kd) (ab:=Pc) (col:=J9) (dd:=od) (k0:=c0) (k1:=c1) (k2:=c2) (k3:=c3) (k5:=c5) hh ?_))
 show aA _ _ (eval (.Call (.Name x np) [.Constant (.bytes b) ck cp] [] cpos) f.env>>=λv=>standAt pos>>=λz_=>pure v) _ _ _
 refine ai (aN ?_ λv s1 h1=>ai (bG (aD h1)))
 show aA _ _ (do callWith cpos (←eval (.Name x np) f.env) [] (backTo cpos (starEach [.Constant (.bytes b) ck cp] f.env)) (backToKw cpos (keywordEach [] f.env))) _ _ _
 refine ai ?_
 have nm:=(xo (n:=n) (P:=P) (pos:=np) (x:=x) hS hf O hn).lift
 have em:zo P sc x=M.ret (.pv (.sv (.ref 52))):=by unfold zo;rw[hx,hsc];show aF (lk P.glob x) _ _=_;rw[hg];rfl
 rw[em] at nm
 refine nm σ (λr σ'=>r= .ok (.pv (.sv (.ref 52)))∧σ'=σ) rel ⟨rfl,rfl⟩ g d tk os _ _ λn' tk' σ' ev rel'=>⟨λm hm v hv=>?_,λt ht=>by cases ht.1⟩
 obtain⟨hm,rfl⟩:=hm
 cases hm
 cases nU hv with
 | sv=>
 refine key n' rel' g d tk' os Q' E' λnS z0 Ox ev' vM=>⟨(P' nS z0 Ox (ev.trans ev') vM).1,λt ht e fl=>(P' nS z0 Ox (ev.trans ev') vM).2 t ht e (fl.older ev.live)⟩
end
noncomputable def sY(l:List (Str×MV))(x:Str):List (Str×MV):=bA (motive:=λz_=>List (Str×MV)) [] (λp z_ q=>cond (bT p.1 x) q (p::q)) l
theorem HN{l:List (Str×MV)}{x y:Str}{v:MV}(h:lk (sY l x) y=some v):y≠x∧lk l y=some v:=by
 induction l with
 | nil=>exact bR h
 | cons p r ih=>
  have h:lk (cond (bT p.1 x) (sY r x) (p::sY r x)) y=some v:=h
  rw[pW]
  cases hb:bT p.1 x with
  | true=>
   rw[hb] at h
   refine A2 (ih h) λh1 h2=>?_
   rw[l8 λq=>h1 (q.symm.trans (bZ.mp hb))]
   exact⟨h1,h2⟩
  | false=>
   rw[hb] at h
   have h:cond (bT p.1 y) (some p.2) (lk (sY r x) y)=some v:=h
   cases q:bT p.1 y with
   | true=>rw[q] at h;exact⟨λe=>iE hb ((bZ.mp q).trans e),h⟩
   | false=>rw[q] at h;exact ih h
section
variable{S:Sx}{f:Fx}{n n':Snap}{σ:St}{told:List UInt8}{e:au}{own cl:List au}
theorem AF(hf:f.Ok)(rel:bu S f σ n){x:Str}(hk:f.env.kindOf x=some .local){h':b9}{mm:Str→Option af}{v:Option af}
  (hm:n.h.Ns f.env.locals mm)(hn:h'.Ns f.env.locals (λy=>if y=x then v else mm y))(hs:fM f.env.locals n.h h')(hl:∀ y mv,lk σ.locs y=some mv→∃ v,aW n.X v mv∧match f.env.kindOf y with
   | some .local=>mm y=some v
   | some .cell | some .free=>∃ c o,f.env.cells.lookup y=some c∧n.X.G c=some o∧o.data= .cell (some v)
   | _=>False):
  dB f.own f.cZ f.cl n ⟨n.X,h'⟩∧bu S f {σ with locs:=sY σ.locs x} ⟨n.X,h'⟩:=by
 refine A2 rel.kB λo1 o2=>?_
 refine E3_2 (id hn) λoL es ep e1 z_=>?_
 refine⟨rW hs e1 (.head _),⟨⟨BZ rel.inv hs e1 o1 o2,rel.dom,λa ha=>?_,s_ hs hn rel.frames⟩,?_,⟨o1,o2⟩,λc hc=>(rel.cells c hc).elim λo e=>(rW (fr:=[]) (cl:=[]) hs e1 (az.mpr rfl)).live c o e⟩⟩
 ·refine fO λzz=>?_
  obtain⟨p1,p2,Ah,p3⟩:=rel.off a ha
  refine zz ?_
  refine⟨p1,p2,?_⟩
  by_cases q:a=f.env.locals
  ·subst q;exact⟨oL,e1⟩
  ·exact⟨Ah,(hs.2 a q).trans p3⟩
 ·refine⟨_,hn,λy mv e=>?_,λy hy=>?_⟩
  ·refine A2 (HN e) λhne e=>?_
   refine E1_2 (hl y mv e) λv' hv' r=>?_
   refine⟨v',hv',?_⟩
   revert r
   cases f.env.kindOf y with
   | none=>exact id
   | some kk=>cases kk <;> intro r <;> first | exact r | (show(if y=x then v else mm y)=some v';rw[if_neg hne];exact r)
  ·refine E1_3 rel.locs λz_ z_ z_ h2=>?_
   refine fO λzz=>?_
   obtain⟨hkc,c,a1,a2,a3,ob,a4,a5⟩:=h2 y hy
   refine zz ?_
   have hc:c≠f.env.locals:=λq=>hf.apart _ (.head _) (q▸pJ a1)
   exact⟨hkc,c,a1,a2,a3,ob,(hs.2 c hc).trans a4,a5⟩
theorem B5(hf:f.Ok){L:Option au}(ev:dB own f.cZ cl n n')(rel:bu S f σ n')(fl:eN L told n.h e n')
  {A:bC}{E:af→ah→Prop}{Q:Unit→ah→Prop}{g d tk os}(h:∀ h',dB own f.cZ cl n ⟨n'.X,h'⟩→bu S f σ ⟨n'.X,h'⟩→eN none told n.h e ⟨n'.X,h'⟩→Q () ⟨h',g,d,tk,os⟩):
  wpAny (model S.prog S.w) A (setFlight (.ref e) none) Q E ⟨n'.h,g,d,tk,os⟩:=by
 refine fO λzz=>?_
 obtain⟨ne,be,bd,ge,c,od,da,gd,w⟩:=fl
 refine zz ?_
 rcases w with w | w
 ·unfold setFlight
  refine wpAny_bind (wpAny_field ge da w ?_)
  rw[if_neg (by decide)]
  exact wpAny_pure (h n'.h ev rel ⟨ne,be,bd,ge,c,od,da,gd,.inl w⟩)
 ·exact w7 hf none ev rel ⟨ne,be,bd,ge,c,od,da,gd,w⟩ λh2 iw kK f2=>h h2 iw kK (EN f2)
end
structure BV(f f₂:Fx):Prop where
 ok:f₂.Ok
 env:f₂.env=f.env
 lv:f₂.lv=0
noncomputable def Oo(S:Sx)(f:Fx)(P:Pg)(sc:List (Str×aE))(k:Nat)(nm:Str)(hbody:List dO)(Q:Res cj→St→Prop)(r:Res cj)(σ:St):Prop:=match r with
 | .ok fl=>Q (.ok fl) σ
 | .exc t=>∀ f₂,BV f f₂→(oq S f₂ P sc k).exs hbody {σ with locs:=Mine.put σ.locs nm (.pv (.exc t))} λr σ₂=>match r with
  | .ok fl=>Q (.ok fl) {σ₂ with locs:=sY σ₂.locs nm}
  | .exc _=>False
section
variable{S:Sx}{f:Fx}{sc:List (Str×aE)}{P:Pg}{ih:Ih}{n:Snap}{σ:St}{fI:au}{wO:eX}{mJ:List dO}
theorem Df(hS:S.Ok)(hf:f.Ok)(O:ic S P)(hn:f.env.scope.names=sc)(rel:bu S f σ n){x:Str}{pos:Pos}{v:af}(hx:ri x=false)(hk:lk sc x=some .globalImplicit)(hv:lk P.glob x=some (.sv v)){E:af→ah→Prop}{Q:af→ah→Prop}{g d tk os}(h:Q v ⟨n.h,g,d,tk,os⟩):
  wpAny (model S.prog S.w) f.A (eval (.Name x pos) f.env) Q E ⟨n.h,g,d,tk,os⟩:=by
 refine A2 (dW.mp hx) λhd hc=>?_
 have hd':(x == ("__debug__":Str))=false:=beq_eq_false_iff_ne.mpr (iE hd)
 refine E1_2 (O.glob x _ hv) λrv EZ Kz=>?_
 have e:rv=v:=by cases Kz;rfl
 subst e
 refine Name_function_global hf.kind (by rw[ee hn,hk]) ?_ hd'
 have kg:n.h.Ns f.env.globals S.mg:=by rw[hf.globals];exact hS.T.g.keeps rel.dU
 have kb:n.h.Ns f.env.builtins S.mb:=by rw[hf.builtins];exact hS.T.b.keeps rel.dU
 rcases EZ with h1 | ⟨h1,h2⟩
 ·exact loadGlobal_global kg h1 h
 ·exact loadGlobal_builtin kg h1 kb h2 h
theorem Js(e:au):some (fY e)≠some byPass:=λq=>by have:=aK q;unfold byPass at this;cases this
theorem rt{prog:cP}{w:cE}{A:bC}{R:j6→ah→Prop}{s:ah}{e:af}{hs:List ExceptHandler}{env:Env}(h:aA (model prog w) A (handleWith e env hs) (λf s'=>R (.ok f) s') (λz_ z_=>False) s):dF (model prog w) A (.handlers e hs env) R s:=by
 refine gJ rfl ?_
 show aA _ A (do return Fin.done (←(handleWith e env hs).onRaise (λx=>do noteFrame x env;theTreesLotGoes x))) _ _ s
 exact ai (iL (lu h (λf s' h'=>aD h') λz_ z_ h=>h.elim))
set_option tactic.hygienic true in
theorem Ls(hS:S.Ok)(hI:dX S f ih)(hf:f.Ok)(hnd:(f.env.cells.map (·.2)).Nodup)(O:ic S P)(hn:f.env.scope.names=sc){L:au}(hL:f.env.frame=some L)(ho:∃ outer,f.fr=f.env::outer)(X:BU S fI wO mJ)
  {body hb:List dO}{b₀:dO}{x nm:Str}{xp hpos pos:Pos}{k:Nat}{Q:Res cj→St→Prop}(hx:ri x=false)(hsc:lk sc x=some .globalImplicit)(hg:lk P.glob x=some (.sv (.ref 52)))(hnm:lk sc nm=some .local)
  (h:ih.exs body σ (Oo S f P sc k nm (b₀::hb) Q)):gE S f (.Try body [.ExceptHandler (some (.Name x xp)) (some nm) (b₀::hb) hpos] [] [] pos) σ Q:=by
 refine⟨λn rel g d tk os Q' E' P'=>?_⟩
 have hoff:∀ a ∈ f.cZ,∃ o,n.h.get? a=some o:=λb hb=>(rel.off b hb).2.2
 show aA _ _ (do standAt pos;tryStmt false (execs body f.env) [.ExceptHandler (some (.Name x xp)) (some nm) (b₀::hb) hpos] (execs [] f.env) [] f.env) _ _ _
 refine ai (bG ?_)
 unfold tryStmt
 refine Nf rfl ?_
 refine ai (qJ (hI.exs body n σ _ rel h g d tk os _ _ λn1 GI σ1 jf je=>⟨λfl hq GV hfl=>?_,λt hq e ER=>?_⟩))
 ·dsimp only
  cases hfl with
  | next=>exact aD ((P' n1 GI σ1 jf je).1 _ hq _ .next)
  | cont=>exact aD ((P' n1 GI σ1 jf je).1 _ hq _ .cont)
  | brk=>exact aD ((P' n1 GI σ1 jf je).1 _ hq _ .brk)
  | ret hv=>exact aD ((P' n1 GI σ1 jf je).1 _ hq _ (.ret hv))
 ·dsimp only
  unfold Fx.L at ER
  rw[hL] at ER
  refine ai (bS (xu hf hL ho hoff jf je ER λh2 iw kK Qu=>?_))
  refine gI (λq=>gy q) ?_
  refine ai (bS (B5 hf iw kK Qu.flight λh3 pM qO Rk=>?_))
  refine gI (λq=>gy q) ?_
  refine gI (λq=>gy q) ?_
  let f₂:Fx:=⟨f.A.mark (some (.ref e)),f.env,f.fr,0⟩
  have Qx:f₂.Ok:=⟨⟨hf.room.frames,by have:=hf.room.depth;show f.A.depth+3*0≤880;exact aa (aT f.A.depth _) this,by have:=hf.room.units;show f.A.units+24*0≤9600;exact aa (aT f.A.units _) this⟩,hf.kind,hf.globals,hf.builtins,hf.apart,hf.here,λq=>absurd q (by show¬(1≤0);decide)⟩
  have Hz:BV f f₂:=⟨Qx,rfl,rfl⟩
  have to2:∀ {σ n},bu S f σ n→bu S f₂ σ n:=λr=>⟨r.toCRel,r.locs,r.kB,r.cells⟩
  have of2:∀ {σ n},bu S f₂ σ n→bu S f σ n:=λr=>⟨r.toCRel,r.locs,r.kB,r.cells⟩
  refine E7_4 X.cls λod cd c0 c1 c2 c3 c5 hlk nQ EX Hs=>?_
  refine fO λzz=>?_
  obtain⟨Pf,cbs,Pe,sX,cq,R7,Pk,Kd,Pc,J9,Pd⟩:=cd
  refine zz ?_
  dsimp only at nQ EX Hs
  subst nQ EX Hs
  unfold handleBy
  dsimp only
  refine ai (aM (p5 rfl (rt ?_) (Js e)))
  unfold handleWith
  refine ai (bG (ai ?_))
  refine bS (Df (S:=S) (f:=f₂) hS Qx O hn (to2 qO) hx hsc hg ?_)
  have R1:=hS.X.keeps qO.dU
  have SO:=R1 _ _ hlk
  refine ai (bG (ai ?_))
  refine fO λzz=>?_
  obtain⟨_,_,_,a3,a4,_,_,_,_⟩:=id Rk
  refine zz ?_
  refine bS (wpAny_excMatches_sub_self (C:=52) (bm:=mO) SO a3 a4 (by decide) ?_)
  refine aD ?_
  dsimp only
  rw[if_pos rfl]
  dsimp only
  refine ai (aD ?_)
  refine gI (λq=>gy q) ?_
  refine ai (aM (p5 rfl (rt ?_) (Js e)))
  show aA _ _ (do
   standAt hpos
   setFlight (.ref e) none
   bindName f.env nm (.ref e)
   match ←(execs (b₀::hb) f.env).attempt with
   | .ok f=>pure f
   | .error x=>
    noteFrame x f.env
    holding [x] <| (do
     bindName f.env nm .none
     unbindBehindTheSuite f.env nm hpos:Sem Unit).onRaise λz_=>setFlight x none
    passOn "try.except-as" x f.env) _ _ _
  refine ai (bG (ai (bS (B5 hf pM qO Rk λh4 Kn Im SA=>?_))))
  refine fO λzz=>?_
  obtain⟨a0,GS,GU,a3,a4,a5,a6,a8,Ug⟩:=id SA
  obtain⟨a1,R2,Q_⟩:=GS
  obtain⟨a2,R3,R4⟩:=GU
  refine zz ?_
  rename_i dd oe vs tt u kk
  have Ib:∀ b,n.h.get? b=none→b ∉ f.cZ∧b ∉ f.own:=λb hb=>by
   constructor
   ·intro q;obtain⟨o,z⟩:=rel.lives b (bN.mpr (.inl q));rw[hb] at z;exact bR z
   ·intro q;obtain⟨o,z⟩:=rel.lives b (bN.mpr (.inr q));rw[hb] at z;exact bR z
  have QL:=Im.v8 a3 R2 Q_ (Ib e a1).1 (Ib e a1).2 (e9 f)
  have Sn:=Kn.v8 (o:=oe) a1 Q_
  have gd:(n1.X.jK e oe).G dd=none:=by
   show(if dd=e then _ else n1.X.G dd)=none
   rw[if_neg (eW a0)];exact R4
  have NO:=QL.v8 (n:=⟨n1.X.jK e oe,h4⟩) a8 R3 gd (Ib dd a2).1 (Ib dd a2).2 (e9 f)
  have So:=Sn.v8 (n:=⟨n1.X.jK e oe,h4⟩) (o:=gR [⟨aU n1.X.P "told",.str "told" tt,.bytes t.toArray u⟩] kk) a2 gd
  have hv:aW ((n1.X.jK e oe).jK dd (gR [⟨aU n1.X.P "told",.str "told" tt,.bytes t.toArray u⟩] kk)) (.ref e) (.pv (.exc t)):=by
   refine .pv (.exc (oe:=oe) (d:=dd) (t:=tt) (u:=u) (k:=kk) ?_ a4 a5 ⟨vs,a6⟩ ?_)
   ·show(if e=dd then _ else if e=e then some oe else _)=_
    rw[if_neg a0,if_pos rfl]
   ·exact if_pos rfl
  refine E1_3 NO.locs λmm OH S4 z_=>?_
  have hk':f.env.kindOf nm=some .local:=by rw[ee hn,hnm]
  have hp:(f.env.scope.kind == .class||(f.env.scope.kind == .module&&f.env.locals != f.env.globals))=false:=by rw[hf.kind];rfl
  refine ai (bS (wpAny_bindName (wpAny_storeName_local hk' OH (λh7 P6 Qd=>?_) hp)))
  refine A2 (m_ hf NO hv hk' S4 P6 Qd) λSq QM=>?_
  have I2:=qD (S:=S) (f:=f₂) (P:=P) (sc:=sc) hS Qx hnd O hn k
  refine ai (qJ (I2.exs (b₀::hb) _ _ _ (to2 QM) (hq f₂ Hz) g d _ os _ _ λn8 T8 RZ Ss Io=>⟨λfl P_ GV hfl=>?_,λt' P_ e' SD=>P_.elim⟩))
  have Pz:dB f.own f.cZ f.cl n n8:=(So.trans Sq).trans Ss
  have Io:=of2 Io
  refine aD ?_
  refine E1_3 Io.locs λm8 Rz S5 z_=>?_
  refine ai (aM (bS (wpAny_nameGoes_keeps hk' Rz hp λh9 v9 S7 S9=>?_)))
  refine A2 (AF hf Io hk' Rz S7 S9 S5) λSu QN=>?_
  have fin:=P' ⟨n8.X,h9⟩ (T8+1) {RZ with locs:=sY RZ.locs nm} (Pz.trans Su) QN
  refine aD ?_
  exact fin.1 fl P_ GV hfl
end
section
variable{S:Sx}{f:Fx}{sc:List (Str×aE)}{P:Pg}{ih:Ih}{n n₀:Snap}{σ:St}
theorem kN.name(fr:kN f n₀ n as)(rel:bu S f σ n)(ev:dB f.own f.cZ f.cl n₀ n)(off:∀ b ∈ as,b ∉ f.cZ∧b ∉ f.own)(lv:∀ b ∈ as,∃ o,n.h.get? b=some o){k:Nat}(hk:k ∉ n.X.dom){o:eg}{a:au}
  (ho:gQ S (n.X.name k a as) n.h k o):dB f.own f.cZ f.cl n₀ ⟨n.X.name k a as,n.h⟩∧bu S f {σ with dom:=k::σ.dom,foot:=(k,o)::σ.foot} ⟨n.X.name k a as,n.h⟩:=by
 have le:n.X.le (n.X.name k a as):=Rc.Ck hk
 have Qs:∀ b j,n.X.own b=some j→b ∉ as:=λb j e hb=>by rw[fr.own b hb] at e;exact bR e
 have on:∀ b,b ∉ as→n.X.own b=none→(n.X.name k a as).own b=none:=λb hb e=>by
  show(if b ∈ as then some k else n.X.own b)=none
  rw[if_neg hb];exact e
 refine⟨⟨ev.le.trans le,ev.keep,ev.live,λb j e=>?_,ev.jt⟩,⟨⟨⟨rel.inv.P,rel.inv.base,rel.inv.sub,λj ob e=>?_,λb j e=>?_⟩,?_,λb hb=>?_,rel.frames⟩,?_,?_,rel.cells⟩⟩
 ·have e:(if b ∈ as then some k else n.X.own b)=some j:=e
  split at e
  ·rename_i hb;exact .inr (fr.new b hb)
  ·exact ev.mW b j e
 ·have e:cond (aX k j) (some o) (cN σ.foot j)=some ob:=e
  cases hb:aX k j with
  | true=>
   rw[hb] at e;cases e
   cases bX hb
   exact⟨cR,ho⟩
  | false=>
   rw[hb] at e
   refine A2 (rel.inv.foot j ob e) λh1 h2=>?_
   refine⟨dj _ h1,h2.mono le h1 λb hb=>⟨?_,λob e=>e⟩⟩
   show(if b ∈ as then some k else n.X.own b)=some j
   rw[if_neg (Qs b j hb)];exact hb
 ·have e:(if b ∈ as then some k else n.X.own b)=some j:=e
  split at e
  ·rename_i hb;exact⟨fr.G b hb,lv b hb⟩
  ·exact rel.inv.off b j e
 ·show k::n.X.dom=k::σ.dom
  rw[rel.dom]
 ·refine A3 (rel.off b hb) λz1 z2 z3=>?_
  exact⟨on b (λq=>(off b q).1 hb) z1,z2,z3⟩
 ·refine E1_3 rel.locs λm hm l1 l2=>?_
  refine⟨m,hm,λx mv e=>?_,λx hx=>?_⟩
  ·refine E1_2 (l1 x mv e) λv hv r=>?_
   exact⟨v,hv.mono le,r⟩
  ·refine fO λzz=>?_
   obtain⟨hk',c,a1,a2,a3,r⟩:=l2 x hx
   refine zz ?_
   first
    | exact⟨hk',c,a1,a2,a3,r⟩
    | exact⟨hk',c,a1,on c (λq=>(off c q).2 (.tail _ (e9 f x c a1))) a2,a3,r⟩
 ·exact⟨on _ (λq=>(off _ q).2 (.head _)) rel.kB.1,rel.kB.2⟩
structure Den(f:Fx)(n₀ n:Snap)(D:au):Prop where
 new:n₀.h.get? D=none
 own:n.X.own D=none
 G:n.X.G D=none
 off:D ∉ f.cZ∧D ∉ f.own
 at_:n.h.get? D=some {cls:=.type "dict",data:=.dict #[]}
theorem Den.step{D:au}{n':Snap}(a:Den f n₀ n D)(ev:dB f.own f.cZ f.cl n n'):Den f n₀ n' D:=
 ⟨a.new,ev.iD a.at_ a.own,q9 ev a.at_ a.own a.G (λq=>a.off.2 (.tail _ q)),a.off,(ev.keep D _ a.at_ a.own a.off.2).1 a.off.1⟩
theorem Den.fresh{D:au}(a:Den f n₀ n D):kN f n₀ n [D]:=⟨λb hb=>by rw[az.mp hb];exact a.new,λb hb=>by rw[az.mp hb];exact a.own,λb hb=>by rw[az.mp hb];exact a.G⟩
theorem Den.dict{K:Type}[DecidableEq K]{D:au}(knd:KeyKind S.prog S.w K)(a:Den f n₀ n D):n.h.DictOf knd D []:=
 ⟨_, #[],0,a.at_,⟨rfl,rfl,rfl⟩,rfl,λz_ he=>by simp at he,Pairs.nil,jA⟩
theorem zj{M:g6}{A:bC}{E:af→ah→Prop}{s:ah}{Q:List (af×af)→ah→Prop}(h:Q [] s):aA M A (evalPairs []) Q E s:=aD h
theorem xj{M:g6}{A:bC}{E:af→ah→Prop}{s:ah}{env:Env}{k v:aJ}{ks:List (Option aJ)}{vs:List aJ}{pos:Pos}{Q:List (af×af)→ah→Prop}
  (h:aA M A (eval k env) (λkv s₁=>aA M A (eval v env) (λvv s₂=>aA M A (evalPairs (pairTrees ks vs env pos)) (λr s₃=>Q ((kv,vv)::r) s₃) E s₂) E s₁) E s):
  aA M A (evalPairs (pairTrees (some k::ks) (v::vs) env pos)) Q E s:=by
 rw[pairTrees,evalPairs]
 refine ai (aN h λkv s₁ h₁=>?_)
 refine ai (aM (ai (aN h₁ λvv s₂ h₂=>ai (bG (aD ?_)))))
 exact ai (aM (aN h₂ λvs s₃ h₃=>aD h₃))
theorem KX{prog:cP}{w:cE}{K:Type}[DecidableEq K]{knd:KeyKind prog w K}{A:bC}{E:af→ah→Prop}{s:ah}{env:Env}{keys:List (Option aJ)}{values:List aJ}{pos:Pos}{Q:af→ah→Prop}
  (hall:keys.all (·.isSome)=true)(hl:keys.length=values.length)(h0:keys≠[])(hlen:keys.length≤15)
  (h:aA (model prog w) A (evalPairs (pairTrees keys values env pos)) (λvs s₁=>vs.length≤15∧∃ kvs,Carries knd vs kvs∧s₁.heap.DictOf knd s.heap.objs.size []∧
   ∀ h',h'.DictOf knd s.heap.objs.size (merged [] kvs)→fM s.heap.objs.size s₁.heap h'→Q (.ref s.heap.objs.size) {s₁ with heap:=h',toks:=s₁.toks+vs.length}) E
   {s with heap:=s.heap.push {cls:=.type "dict",data:=.dict #[]}}):
  aA (model prog w) A (eval (.Dict keys values pos) env) Q E s:=by
 have hn:=pairTrees_length keys values env pos hall hl
 have h0':pairTrees keys values env pos≠[]:=λhe=>by rw[he] at hn;exact h0 (kO.mp hn.symm)
 rw[arm_eval_Dict,zip_pairTrees keys values env pos hall hl,dictDisplay_pairs _ h0' (aY (aa (aQ hn) hlen) (by decide))]
 refine ai (bG (ai ?_))
 unfold subDict
 refine ai (bS (wpAny_alloc ?_))
 refine ai (aM ?_)
 rw[if_pos (show(pairTrees keys values env pos).length≤15 by exact aa (aQ hn) hlen)]
 refine ai (aN h λvs s₁ h₁=>?_)
 refine fO λzz=>?_
 obtain⟨hvl,kvs,hc,hm,hQ⟩:=h₁
 refine zz ?_
 have hsz:([]:List (K×af)).length+kvs.length≤sizeLine:=by
  have e:=hc.length
  rw[sizeLine_eq,nK];exact aa (aQ ((eG _).trans e)) (aa hvl (by decide))
 refine aM (ai (bS (wpAny_storeAll (knd:=knd) vs kvs [] s₁ _ hc hm hsz λh' hm' hs'=>aD (aD (aD (hQ h' hm' hs'))))))
section
variable{K:Type}[DecidableEq K]{knd:KeyKind S.prog S.w K}{κ:aJ→Option K}
structure BW(S:Sx){K:Type}[DecidableEq K](knd:KeyKind S.prog S.w K)(κ:aJ→Option K):Prop where
 at_:∀ e k,κ e=some k→∀ (A:bC) (env:Env) (E:af→ah→Prop) (Q:af→ah→Prop) h g d tk os,(∀ v tk',knd.is k v=true→Q v ⟨h,g,d,tk',os⟩)→wpAny (model S.prog S.w) A (eval e env) Q E ⟨h,g,d,tk,os⟩
noncomputable def KJ{α:Type}(g:Const→Option α)(e:aJ):Option α:=nJ e (λc z_ z_=>g c) none
theorem yW{α:Type}{g:Const→Option α}{e:aJ}{k:α}(h:KJ g e=some k):∃ c a b,e= .Constant c a b∧g c=some k:=by
 cases e <;> first | exact bR h | exact⟨_,_,_,rfl,h⟩
noncomputable def GB(e:aJ):Option Str:=KJ (λc=>match c with | .str x=>some x | _=>none) e
noncomputable def bytesKey(e:aJ):Option (List UInt8):=KJ (λc=>match c with | .bytes x=>some x | _=>none) e
theorem DH:BW S (strKind S.prog S.w) GB:=⟨λe k he A env E Q h g d tk os H=>by
 refine E3_2 (yW he) λc a b zq he=>?_
 subst zq
 cases c with
 | str x=>cases he;exact wpAny_Constant_str (H _ _ (strKind_is _ _ _ _))
 | _=>exact bR he⟩
theorem yr:BW S (bytesKind S.prog S.w) bytesKey:=⟨λe k he A env E Q h g d tk os H=>by
 refine E3_2 (yW he) λc a b zq he=>?_
 subst zq
 cases c with
 | bytes x=>cases he;exact λz_ z_ z_=>H (.bytes _ tk) (tk+1) (bytesKind_is _ _ _ _)
 | _=>exact bR he⟩
noncomputable def dvals(ih:Ih)(κ:aJ→Option K)(ks:List (Option aJ)):List aJ→(List (K×PV)→St→Prop)→St→Prop:=bA (motive:=λ_=>List aJ→(List (K×PV)→St→Prop)→St→Prop)
 (λvs fin σ=>jg vs (fin [] σ) False) (λo _ q vs fin σ=>aF o (λe=>jL vs (λv vs=>aF (κ e) (λk=>ih.ev v σ (Co λy τ=>∃ p,y= .pv p∧q vs (λps=>fin ((k,p)::ps)) τ)) False) False) False) ks
theorem C6(hI:dX S f ih)(ko:BW S knd κ){D:au}{pos:Pos}{g d os}{E:af→ah→Prop}:∀ (ks:List (Option aJ)) (vs:List aJ) (fin:List (K×PV)→St→Prop) (σ:St) (n:Snap) (tk:Nat) (R:List (af×af)→ah→Prop),
  dvals ih κ ks vs fin σ→bu S f σ n→Den f n₀ n D→
  (∀ n' tk' LM kvs es τ,fin es τ→dB f.own f.cZ f.cl n n'→bu S f τ n'→Den f n₀ n' D→Carries knd LM kvs→rC n'.X.P n'.X.G kvs es→LM.length=ks.length→R LM ⟨n'.h,g,d,tk',os⟩)→
  aA (model S.prog S.w) f.A (evalPairs (pairTrees ks vs f.env pos)) R E ⟨n.h,g,d,tk,os⟩:=by
 intro ks
 induction ks with
 | nil=>
  intro vs fin σ n tk R h rel dn H
  cases vs with
  | cons _ _=>exact False.elim h
  | nil=>exact zj (H n tk [] [] [] σ h (dB.refl n) rel dn trivial .nil rfl)
 | cons o ks ih'=>
  intro vs fin σ n tk R h rel dn H
  cases o with
  | none=>exact False.elim h
  | some e=>
  cases vs with
  | nil=>exact False.elim h
  | cons v vs=>
  have h:aF (κ e) (λk=>ih.ev v σ (Co λy τ=>∃ p,y= .pv p∧dvals ih κ ks vs (λps=>fin ((k,p)::ps)) τ)) False:=h
  cases hk:κ e with
  | none=>rw[hk] at h;exact False.elim h
  | some k=>
  rw[hk] at h
  refine xj (bS (ko.at_ e k hk _ _ _ _ _ _ _ _ _ λkv GI hkv=>?_))
  refine hI.ev v n σ _ rel h g d GI os _ _ λn1 T7 σ1 jf je=>⟨λb hb a ha=>?_,λt ht=>ht.elim⟩
  refine E1_2 (show∃ p,b= .pv p∧dvals ih κ ks vs (λps=>fin ((k,p)::ps)) σ1 from hb) λp zq hb2=>?_
  subst zq
  refine ih' vs _ σ1 n1 T7 _ hb2 je (dn.step jf) λn' tk' LM kvs es τ h1 iw kK Sg hc hp hl=>?_
  exact H n' tk' ((kv,a)::LM) ((k,a)::kvs) ((k,p)::es) τ h1 (jf.trans iw) kK Sg ⟨hkv,rfl,hc⟩ (.cons (nU (ha.mono iw.le)) hp) (congrArg (·+1) hl)
theorem rC.keys{κ:Type}{P:aV}{G:au→Option Obj}:∀ {es:List (κ×af)}{fs:List (κ×PV)},rC P G es fs→es.map (·.1)=fs.map (·.1)
:=by
 intro es fs z
 induction z with
 | nil=>rfl
 | cons _ _ ih=>exact congrArg (_:: ·) ih
theorem B7(hI:dX S f ih)(hf:f.Ok)(ko:BW S knd κ){keys:List (Option aJ)}{values:List aJ}{pos:Pos}{mk:List (K×PV)→eg}{Q:Res MV→St→Prop}
  (S6:∀ X h n kvs es,h.DictOf knd (X.θ n) kvs→X.own (X.θ n)=some n→rC X.P X.G kvs es→gQ S X h n (mk es))
  (hall:keys.all (·.isSome)=true)(hl:keys.length=values.length)(h0:keys≠[])(hlen:keys.length≤15)
  (h:dvals ih κ keys values (λes τ=>(es.map (·.1)).Nodup∧∃ k,bL k τ.dom=false∧Q (.ok (.loc k)) {τ with dom:=k::τ.dom,foot:=(k,mk es)::τ.foot}) σ):sH S f (.Dict keys values pos) σ Q:=by
 refine⟨λn rel g d tk os Q' E' P'=>KX (knd:=knd) hall hl h0 hlen ?_⟩
 have nD:n.h.get? n.h.objs.size=none:=bJ _
 have kp:∀ b o,n.h.get? b=some o→(n.h.push {cls:=.type "dict",data:=.dict #[]}).get? b=some o:=λb o e=>aq _ e
 have NC:n.h.objs.size ∉ f.cZ∧n.h.objs.size ∉ f.own:=by
  constructor
  ·intro q;obtain⟨o,e⟩:=rel.lives _ (bN.mpr (.inl q));rw[nD] at e;exact bR e
  ·intro q;obtain⟨o,e⟩:=rel.lives _ (bN.mpr (.inr q));rw[nD] at e;exact bR e
 have Sm:dB f.own f.cZ f.cl n ⟨n.X,n.h.push {cls:=.type "dict",data:=.dict #[]}⟩:=(dB.grow (own:=[]) (fr:=f.cZ) (cl:=[]) kp).wide
 have QK:bu S f σ ⟨n.X,n.h.push {cls:=.type "dict",data:=.dict #[]}⟩:=rel.pN (dB.grow kp) (rel.inv.grow kp) rel.dom rfl rfl
 have Sf:Den f n ⟨n.X,n.h.push {cls:=.type "dict",data:=.dict #[]}⟩ n.h.objs.size:=⟨nD,(aZ rel.inv nD).1,(aZ rel.inv nD).2,NC,aL _ rfl⟩
 refine C6 hI ko keys values _ σ ⟨n.X,n.h.push {cls:=.type "dict",data:=.dict #[]}⟩ tk _ h QK Sf λn' tk' LM kvs es τ hq jf je LD hc hp hlr=>?_
 refine fO λzz=>?_
 obtain⟨nd,k,hk,hq⟩:=hq
 refine zz ?_
 refine⟨by exact aa (aQ hlr) hlen,kvs,hc,LD.dict knd,λh' hd Cc=>?_⟩
 rw[merged_nil_of_nodup kvs (by rw[hp.keys];exact nd)] at hd
 have KP:∀ b o,b ∉ [n.h.objs.size]→n'.h.get? b=some o→h'.get? b=some o:=λb o hb e=>(Cc.2 b (λq=>hb (by rw[q];exact .head _))).trans e
 have off:∀ b ∈ [n.h.objs.size],b ∉ f.cZ∧b ∉ f.own:=λb hb=>by rw[az.mp hb];exact NC
 have iw:=(Sm.trans jf).wrote (f:=f) LD.fresh KP
 have kK:=je.wrote LD.fresh off (e9 f) KP
 have SE:kN f n ⟨n'.X,h'⟩ [n.h.objs.size]:=⟨LD.fresh.new,LD.fresh.own,LD.fresh.G⟩
 have hkd:k ∉ n'.X.dom:=by rw[je.dom];exact jq hk
 have BQ:(n'.X.name k n.h.objs.size [n.h.objs.size]).θ k=n.h.objs.size:=if_pos rfl
 obtain⟨pM,qO⟩:=SE.name kK iw off (λb hb=>by rw[az.mp hb];obtain⟨o,es,ep,ho,_⟩:=hd;exact⟨o,ho⟩) hkd (o:=mk es) (a:=n.h.objs.size)
  (S6 _ _ _ kvs es (by rw[BQ];exact hd) (by rw[BQ];exact if_pos (az.mpr rfl)) hp)
 have vr:=aW.loc (X:=n'.X.name k n.h.objs.size [n.h.objs.size]) (n:=k) cR
 rw[BQ] at vr
 exact(P' _ _ _ pM qO).1 _ hq _ vr
theorem Gs(hI:dX S f ih)(hf:f.Ok){keys:List (Option aJ)}{values:List aJ}{pos:Pos}{Q:Res MV→St→Prop}(hall:keys.all (·.isSome)=true)(hl:keys.length=values.length)(h0:keys≠[])(hlen:keys.length≤15)
  (h:dvals ih GB keys values (λes τ=>(es.map (·.1)).Nodup∧∃ k,bL k τ.dom=false∧Q (.ok (.loc k)) {τ with dom:=k::τ.dom,foot:=(k,.ja es)::τ.foot}) σ):sH S f (.Dict keys values pos) σ Q:=
 B7 hI hf DH (λz_ z_ z_ z_ z_ a b c=>.ja a b c) hall hl h0 hlen h
theorem Eg(hI:dX S f ih)(hf:f.Ok){keys:List (Option aJ)}{values:List aJ}{pos:Pos}{Q:Res MV→St→Prop}(hall:keys.all (·.isSome)=true)(hl:keys.length=values.length)(h0:keys≠[])(hlen:keys.length≤15)
  (h:dvals ih bytesKey keys values (λes τ=>(es.map (·.1)).Nodup∧∃ k,bL k τ.dom=false∧Q (.ok (.loc k)) {τ with dom:=k::τ.dom,foot:=(k,.iT es)::τ.foot}) σ):sH S f (.Dict keys values pos) σ Q:=
 B7 hI hf yr (λz_ z_ z_ z_ z_ a b c=>.iT a b c) hall hl h0 hlen h
theorem EB(hf:f.Ok){pos:Pos}{Q:Res MV→St→Prop}{k:Nat}(hk:bL k σ.dom=false)(h:Q (.ok (.loc k)) {σ with dom:=k::σ.dom,foot:=(k,.fZ true 0)::σ.foot}):sH S f (.Dict [] [] pos) σ Q:=by
 refine⟨λn rel g d tk os Q' E' P'=>bS (wpAny_Dict_empty ?_)⟩
 have nD:n.h.get? n.h.objs.size=none:=bJ _
 have kp:∀ b o,n.h.get? b=some o→(n.h.push {cls:=.type "dict",data:=.dict #[]}).get? b=some o:=λb o e=>aq _ e
 have hkd:k ∉ n.X.dom:=by rw[rel.dom];exact jq hk
 have BQ:(n.X.name k n.h.objs.size [n.h.objs.size]).θ k=n.h.objs.size:=if_pos rfl
 obtain⟨ev,inv⟩:=r_ rel.inv hkd (.fZ true 0) _ n.h.objs.size [n.h.objs.size] kp
  (.fZ (kvs:=[]) (by rw[BQ];exact Heap.DictOf.new _) (by rw[BQ];exact if_pos (az.mpr rfl)) (bf _) (λz_=>rfl))
  (λa ha=>by rw[az.mp ha];exact⟨nD,_,aL _ rfl⟩) [] f.cZ []
 have vr:=aW.loc (X:=n.X.name k n.h.objs.size [n.h.objs.size]) (n:=k) cR
 rw[BQ] at vr
 exact(P' _ _ {σ with dom:=k::σ.dom,foot:=(k,.fZ true 0)::σ.foot} ev.wide (rel.pN ev inv (by show k::n.X.dom=k::σ.dom;rw[rel.dom]) rfl rfl)).1 _ h _ vr
end
end
section
variable{S:Sx}{f:Fx}{sc:List (Str×aE)}{P:Pg}{ih:Ih}{n n₀:Snap}{σ:St}
theorem wm(hf:f.Ok)(hn:f.env.scope.names=sc){x:Str}{v:af}{m:MV}(hk:lk sc x=some .local)(hv:aW n.X v m):
  Sd S f (dM S f (bindName f.env x v)) (oJ Unit) (λσ Q=>Q (.ok ()) {σ with locs:=Mine.put σ.locs x m}) n:=by
 intro σ Q rel hq g d tk os Q' E' P'
 refine E1_3 rel.locs λmm hm hl hu=>?_
 have hk':f.env.kindOf x=some .local:=by rw[ee hn,hk]
 have hp:(f.env.scope.kind == .class||(f.env.scope.kind == .module&&f.env.locals != f.env.globals))=false:=by rw[hf.kind];rfl
 refine wpAny_bindName (wpAny_storeName_local hk' hm (λh' hn hs=>?_) hp)
 refine A2 (m_ hf rel hv hk' hl hn hs) λev rel'=>?_
 exact(P' _ _ _ ev rel').1 () hq () rfl
noncomputable def QW(x:Str)(m:MV):M Unit:=λσ Q=>St.casesOn (motive:=λz_=>Prop) σ λl F d u=>Q (.ok ()) ⟨Mine.put l x m,F,d,u⟩
noncomputable def E9(sc:List (Str×aE))(x:Str):Bool:=match lk sc x with
 | some .local=>true
 | _=>false
theorem E_{x:Str}(h:E9 sc x=true):lk sc x=some .local:=by
 unfold E9 at h
 split at h
 ·assumption
 ·exact gy h
noncomputable def binds(sc:List (Str×aE)):List Str→List MV→M Unit
 | x::xs,m::ms=>M.need (E9 sc x) ((QW x m).andThen λz_=>binds sc xs ms)
 | [],[]=>M.ret ()
 | _,_=>M.no
theorem Eh(hf:f.Ok)(hn:f.env.scope.names=sc):∀ (xs:List Str) (vs:List af) (ms:List MV) (n:Snap),bY n.X vs ms→
  Sd S f (WP S f (assignInOrder (xs.map λx=>bindName f.env x) vs)) (oJ Unit) (binds sc xs ms) n:=by
 intro xs
 induction xs with
 | nil=>intro vs ms n h;cases h with
  | nil=>exact Sd.ret λz_ g d tk os Q E H=>aD (H _ tk rfl)
  | cons=>exact .no
 | cons x xs ih=>intro vs ms n h;cases h with
 | nil=>exact .no
 | @cons v m vs ms hv hvs=>
  refine Sd.need λhk=>Sd.imp (T:=λQ E s=>WP S f (bindName f.env x v) (λz_ s'=>WP S f (assignInOrder (xs.map λx=>bindName f.env x) vs) Q E s') E s) ?_ (λQ E s h=>?_)
  ·exact Sd.bind (R':=oJ Unit) (wm hf hn (E_ hk) hv).lift λn' ev a b hab=>ih vs ms n' (hvs.mono ev.le)
  ·show aA _ _ (do holding vs (bindName f.env x v);assignInOrder (xs.map λx=>bindName f.env x) vs) Q E s
   exact ai (aM h)
theorem DU{X:Rc}:∀ {vs:List af}{ms:List MV}{vs':List af}{ms':List MV},bY X vs ms→bY X vs' ms'→bY X (vs.reverseAux vs') (ms.reverseAux ms')
:=by
 intro vs
 induction vs with
 | nil=>intro ms vs' ms' z h;cases z;exact h
 | cons v vs ih=>intro ms vs' ms' z h;cases z with
  | @cons _ m _ ms a b=>exact ih (ms:=ms) b (bY.cons a h)
theorem bY.reverse{X:Rc}{vs:List af}{ms:List MV}(h:bY X vs ms):bY X vs.reverse ms.reverse:=DU h .nil
noncomputable def sA(sc:List (Str×aE))(lv:Nat)(names:List Str):MV→M cj
 | .pv (.tup ps)=>M.need (aO 1 lv&&aX names.length ps.length) ((binds sc names.reverse (ps.map .pv).reverse).andThen λz_=>M.ret .next)
 | .lX ms=>M.need (aO 1 lv&&aX names.length ms.length) ((binds sc names.reverse ms.reverse).andThen λz_=>M.ret .next)
 | _=>M.no
theorem qh(hf:f.Ok)(hn:f.env.scope.names=sc){names:List Str}{a:au}{its:List af}{m:Nat}{ms:List MV}{stores:List (af→Sem Unit)}(g:n.X.G a=some (o8 its m))(hr:bY n.X its ms)
  (hc:(aO 1 f.lv&&aX names.length ms.length)=true):Sd S f (WP S f (assignStores f.env (.ref a) (some names) stores)) dc ((binds sc names.reverse ms.reverse).andThen λz_=>M.ret .next) n:=by
 refine A2 (aj.mp hc) λh1 h3=>?_
 have hh:=hf.handled (gM h1)
 have h3:=bX h3
 have hlen:=hr.length
 intro σ Q rel hm gg d tk os Q' E' P'
 show aA _ _ (do rule "assign.swapped-stores";let items ←unpackItems (.ref a) names.length none;assignInOrder (names.reverse.map λn=>bindName f.env n) items.reverse;pure Flow.next) _ _ _
 refine ai (tQ ?_)
 have ht:(⟨n.h,gg,d,tk,os⟩:ah).heap.IsTuple a its.toArray:=j9 (s:=⟨n.h,gg,d,tk,os⟩) rel.inv.sub g
 have hsz:names.length=its.toArray.size:=by simp;exact h3.trans hlen.symm
 rw[hsz]
 refine ai (bS (wpAny_unpackItems_tuple hh ht λh' hx=>?_))
 have kp:∀ b o,n.h.get? b=some o→h'.get? b=some o:=λb o e=>hx b o (fy (bB e)) e
 have je:bu S f σ ⟨n.X,h'⟩:=rel.pN (dB.grow kp) (rel.inv.grow kp) rel.dom rfl rfl
 have core:=Sd.post (S:=S) (R:=dc) (R':=oJ Unit) (U:=λz_=>Flow.next) (k:=λz_=>cj.next) (Eh hf hn names.reverse its.reverse ms.reverse ⟨n.X,h'⟩ hr.reverse) λn' ev a b h=>.next
 refine ai (aN (core σ Q je hm gg d tk os Q' E' λn' tk' σ' ev rel'=>?_) λz_ z_ h=>aD h)
 have:=P' n' tk' σ' ((dB.grow kp).trans ev) rel'
 exact⟨this.1,λt ht e fl=>this.2 t ht e (fl.older λb o e=>⟨o,kp b o e⟩)⟩
theorem BI(hf:f.Ok)(hn:f.env.scope.names=sc){names:List Str}{v:af}{m:MV}{stores:List (af→Sem Unit)}(hv:aW n.X v m):Sd S f (WP S f (assignStores f.env v (some names) stores)) dc (sA sc f.lv names m) n:=by
 cases hv with
 | pv h=>
  cases h with
  | tup g r=>exact Sd.need λhc=>qh hf hn g (vY r) (by rw[aC];exact hc)
  | _=>exact .no
 | lX g r=>exact Sd.need λhc=>qh hf hn g r hc
 | _=>exact .no
theorem GC(hI:dX S f ih)(hf:f.Ok)(hn:f.env.scope.names=sc){ts vs:List aJ}{k k':Nat}{tp vp apos:Pos}{names:List Str}{Q:Res cj→St→Prop}(hs:swappedStores [.Tuple ts k tp] (.Tuple vs k' vp) f.env=pure (some names))
  (h:((ih.ev (.Tuple vs k' vp)).andThen λv=>sA sc f.lv names v) σ Q):gE S f (.Assign [.Tuple ts k tp] (.Tuple vs k' vp) apos) σ Q:=by
 refine⟨λn rel=>?_⟩
 let st:=(assignEach [.Tuple ts k tp] f.env).map (·.2)
 have sd:Sd S f (λQ E s=>WP S f (eval (.Tuple vs k' vp) f.env) (λv s1=>WP S f (assignStores f.env v (some names) st) Q E s1) E s) dc ((ih.ev (.Tuple vs k' vp)).andThen λv=>sA sc f.lv names v) n:=
  Sd.bind (R':=RV) (hI.ev _ n) λn1 jf v m hv=>BI (stores:=st) hf hn hv
 refine(sd σ Q rel h).imp λQ E s h=>?_
 have e1:exec (.Assign [.Tuple ts k tp] (.Tuple vs k' vp) apos) f.env=(do
   standAt apos
   if ←swapsWithSole [.Tuple ts k tp] (.Tuple vs k' vp) apos.line f.env then do
    evalThenUse (.Tuple vs k' vp) f.env λv=>assignAll v ((assignEach [.Tuple ts k tp] f.env).map (·.2))
    pure .next
   else do
    let v ←eval (.Tuple vs k' vp) f.env
    assignStores f.env v (←swappedStores [.Tuple ts k tp] (.Tuple vs k' vp) f.env) ((assignEach [.Tuple ts k tp] f.env).map (·.2))):=rfl
 have e2:swapsWithSole [.Tuple ts k tp] (.Tuple vs k' vp) apos.line f.env=pure false:=rfl
 show aA _ _ (exec _ f.env) _ _ _
 rw[e1,e2,hs]
 exact ai (bG (ai (aD (ai (aN h λv s1 h1=>ai (aD h1))))))
theorem Dq(hI:dX S f ih)(hf:f.Ok){ts vs:List aJ}{k k':Nat}{tp vp apos:Pos}{Q:Res cj→St→Prop}(hs:swappedStores [.Tuple ts k tp] (.Tuple vs k' vp) f.env=pure none)
  (h:((ih.ev (.Tuple vs k' vp)).andThen λv=>(ih.asg (.Tuple ts k tp) v).andThen λz_=>M.ret .next) σ Q):gE S f (.Assign [.Tuple ts k tp] (.Tuple vs k' vp) apos) σ Q:=by
 refine⟨λn rel=>?_⟩
 have sd:Sd S f (λQ E s=>WP S f (eval (.Tuple vs k' vp) f.env) (λv s1=>WP S f (assign (.Tuple ts k tp) f.env v) (λz_ s2=>Q .next s2) E s1) E s) dc ((ih.ev (.Tuple vs k' vp)).andThen λv=>(ih.asg (.Tuple ts k tp) v).andThen λz_=>M.ret .next) n:=
  Sd.bind (R':=RV) (hI.ev _ n) λn1 jf v m hv=>Sd.post (R':=oJ Unit) (U:=λz_=>Flow.next) (k:=λz_=>cj.next) (hI.asg _ v m n1 hv) λn' ev a b h=>.next
 refine(sd σ Q rel h).imp λQ E s h=>?_
 have e1:exec (.Assign [.Tuple ts k tp] (.Tuple vs k' vp) apos) f.env=(do
   standAt apos
   if ←swapsWithSole [.Tuple ts k tp] (.Tuple vs k' vp) apos.line f.env then do
    evalThenUse (.Tuple vs k' vp) f.env λv=>assignAll v ((assignEach [.Tuple ts k tp] f.env).map (·.2))
    pure .next
   else do
    let v ←eval (.Tuple vs k' vp) f.env
    assignStores f.env v (←swappedStores [.Tuple ts k tp] (.Tuple vs k' vp) f.env) ((assignEach [.Tuple ts k tp] f.env).map (·.2))):=rfl
 have e2:swapsWithSole [.Tuple ts k tp] (.Tuple vs k' vp) apos.line f.env=pure false:=rfl
 show aA _ _ (exec _ f.env) _ _ _
 rw[e1,e2,hs]
 refine ai (bG (ai (aD (ai (aN h λv s1 h1=>ai (aD ?_))))))
 show aA _ _ (assignAll v [assign (.Tuple ts k tp) f.env]>>=_) _ _ _
 exact ai (aN h1 λz_ z_ h=>aD h)
noncomputable def rowNames(sc:List (Str×aE))(ts:List aJ):List Str:=
 ts.filterMap λe=>Ad e (λid pos=>if lk sc id == some .local&&pos.line == (ts.head?.map (·.pos.line)).getD 0 then some id else none) none
noncomputable def jv(env:Env)(ts:List aJ):List Str:=
 ts.filterMap λe=>swappedStores.match_8 (motive:=λz_=>Option Str) e (λid pos=>if env.kindOf id == some .local&&pos.line == (ts.head?.map (·.pos.line)).getD 0 then some id else none) λz_=>none
theorem ru(hn:f.env.scope.names=sc)(ts:List aJ):jv f.env ts=rowNames sc ts:=by
 unfold jv rowNames
 congr 1
 funext e
 cases e with
 | Name id pos=>show ite _ _ _=ite _ _ _;rw[ee hn]
 | _=>rfl
theorem um(env:Env)(ts vs:List aJ)(k k':Nat)(tp vp:Pos):swappedStores [.Tuple ts k tp] (.Tuple vs k' vp) env=
  (if(!(ts.length == 2||ts.length == 3)||vs.length != ts.length||env.blockKind != .function)=true then pure none else
  if vs.any isStarred=true then pure none else
  if((jv env ts).length != ts.length||(jv env ts).eraseDups.length != (jv env ts).length)=true then pure none else
  if vs.all (foldedForSure 8)=true then pure none else
  if vs.all (constantsAlone 8)=true then(do let _ ←(unsupported "assign.tuple-of-constant-expressions:order-of-the-stores":Sem PUnit);pure (some (jv env ts))) else
  pure (some (jv env ts))):=rfl
theorem xV(hf:f.Ok)(hn:f.env.scope.names=sc){ts vs:List aJ}{k k':Nat}{tp vp:Pos}{names:List Str}(h1:(ts.length == 2||ts.length == 3)=true)(h2:(vs.length == ts.length)=true)(h3:vs.any isStarred=false)
  (h4:rowNames sc ts=names)(h5:(names.length == ts.length)=true)(h6:(names.eraseDups.length == names.length)=true)(h7:vs.all (foldedForSure 8)=false)(h8:vs.all (constantsAlone 8)=false):
  swappedStores [.Tuple ts k tp] (.Tuple vs k' vp) f.env=pure (some names):=by
 have hb:(f.env.blockKind != sL)=false:=by unfold Env.blockKind;rw[hf.kind];rfl
 have g1:(!(ts.length == 2||ts.length == 3)||vs.length != ts.length||f.env.blockKind != .function)=false:=by rw[h1,hb,bne,h2];rfl
 have g2:(names.length != ts.length||names.eraseDups.length != names.length)=false:=by rw[bne,bne,h5,h6];rfl
 rw[um,ru hn,h4,g1,h3,g2,h7,h8]
 rfl
theorem xU(hn:f.env.scope.names=sc){ts vs:List aJ}{k k':Nat}{tp vp:Pos}(h5:((rowNames sc ts).length == ts.length)=false):
  swappedStores [.Tuple ts k tp] (.Tuple vs k' vp) f.env=pure none:=by
 have g2:((rowNames sc ts).length != ts.length||(rowNames sc ts).eraseDups.length != (rowNames sc ts).length)=true:=by rw[bne,h5];rfl
 rw[um,ru hn,g2]
 split
 ·rfl
 ·split <;> rfl
end
theorem vB{P:aV}{G:au→Option Obj}{its:List af}{ps:List PV}{is:List Int}(r:bQ P G its ps)(h:allInts ps=some is){j:Nat}{v:af}(e:its[j]? =some v):∃ i t,is[j]? =some i∧v= .int i t:=by
 refine A2 (mG ps h) λh1 h2=>?_
 have hj:j<its.length:=(bW.mp e).1
 rw[r.length, ←h1] at hj
 refine E1_1 (h2 j hj) λl h3=>?_
 refine E1_2 (r.get h3) λv' e' pr=>?_
 rw[e] at e';cases e'
 refine E1_1 pr.inv λt nV=>?_
 subst nV
 exact⟨_,t,cX hj,rfl⟩
theorem zV{kvs:List (Int×af)}{k:Int}{v:af}(h:k ∉ kvs.map (·.1)):(stored kvs k v).map (·.1)=kvs.map (·.1)++[k]:=by
 unfold stored
 rw[if_neg]
 ·rw[b_];rfl
 ·intro q
  refine E1_2 (dG.mp q) λp h1 h2=>?_
  exact h (cJ.mpr ⟨p,h1,of_decide_eq_true h2⟩)
theorem ue{FV:af→af→Prop}{vs:List af}{kvs:List (Int×af)}(h:StoredAll (λv (k:Int)=>∃ t,v= .int k t) FV vs kvs):∀ {is:List Int},is.Nodup→vs.length=is.length→(∀ (j:Nat) (v:af),vs[j]? =some v→∃ (i:Int) (t:Tok),is[j]? =some i∧v= .int i t)→kvs.map (·.1)=is:=by
 induction h with
 | nil=>intro is _ hl _;rw[nK] at hl;rw[cQ hl.symm];rfl
 | @snoc l kvs v k y _ hk _ ih=>
  intro is nd hl hj
  rw[aS,l9] at hl
  have ME:=hj l.length v (by rw[jz (bf _),Nat.sub_self];rfl)
  refine fO λzz=>?_
  obtain⟨i,t,hi,rfl⟩:=ME
  obtain⟨t',hk⟩:=hk
  cases hk
  refine zz ?_
  have S_:is=is.take l.length++[k]:=by
   have:=List.take_append_drop l.length is
   rw[gK (aQ hl),ez (aQ hl.symm)] at this
   rw[cX (aQ hl)] at hi
   rw[aK hi] at this
   exact this.symm
  rw[S_] at nd ⊢
  have hn:=List.nodup_append.mp nd
  have ih:=ih (is:=is.take l.length) hn.1 (by rw[List.length_take];exact(nN (a_ (aQ hl))).symm) λj v e=>by
   have hlt:j<l.length:=(bW.mp e).1
   refine fO λzz=>?_
   obtain⟨i',t',h1,h2⟩:=hj j v (by rw[qn hlt];exact e)
   refine zz ?_
   exact⟨i',t',by rw[List.getElem?_take_of_lt hlt];exact h1,h2⟩
  rw[zV,ih]
  rw[ih]
  exact λq=>hn.2.2 _ q _ (.head _) rfl
section
variable{S:Sx}{f:Fx}{sc:List (Str×aE)}{P:Pg}{n:Snap}{σ:St}
set_option tactic.hygienic true in
theorem Ez(hS:S.Ok)(hf:f.Ok)(O:ic S P)(hl:1≤f.lv)(hn:f.env.scope.names=sc){one x:Str}{kp vp tp ip pos:Pos}{ck b k:Nat}{scope:nY}{rev:List PV}{is:List Int}{Q:Res MV→St→Prop}
  (hd:ri one=false)(h1:∀ y ∈ scope.names,y.2≠ .cell)(h2:scope.kind= .function)(h3:∀ y ∈ scope.names,y.2= .local→scope.names.lookup y.1=some .local)(h4:scope.names.lookup one=some .local)(h5:frees scope.names=[])
  (hb:zo P sc x σ λr σ'=>r= .ok (.loc b)∧σ'=σ)(ho:cN σ.foot b=some (.list rev))(hi:allInts rev.reverse=some is)(nd:is.Nodup)(hz:rev.length≤aB)(hk:bL k σ.dom=false)
  (hq:Q (.ok (.loc k)) {σ with dom:=k::σ.dom,foot:=(k,.fZ true rev.length)::σ.foot}):
  sH S f (.DictComp (.Name one kp) (.Constant (.int 1) ck vp) [⟨.Name one tp,.Name x ip,[],0⟩] scope pos) σ Q:=by
 refine⟨λn rel g d tk os Q' E' P'=>bS ?_⟩
 have hh:=hf.handled hl
 refine fO λzz=>?_
 obtain⟨hd1,hd2⟩:=dW.mp hd
 have hd':(one == ("__debug__":Str))=false:=beq_eq_false_iff_ne.mpr (iE hd1)
 obtain⟨g1,NF,r1⟩:=(fG rel ho).2.inv
 refine zz ?_
 rename_i its j
 have r1':=r1.reverse
 rw[dZ] at r1'
 refine wpAny_DictComp_free (intKind S.prog S.w) (λz_=>true) (λv (k:Int)=>∃ t,v= .int k t) (λz_ z_=>True) (jw (scope:=scope) (by rw[h5];exact λz_ h=>jd h)) h1 h2 h3 h4 ?_ (λz_=>rfl)
 refine xo hS hf O hn x ip σ _ rel hb g d tk os _ E' λn1 GI σ1 jf je=>⟨λm hm v hv=>?_,λt ht=>by cases ht.1⟩
 refine fO λzz=>?_
 obtain⟨hm,rfl⟩:=hm
 cases hm
 obtain⟨rfl,Uh⟩:=ur hv
 obtain⟨g2,TA,r2⟩:=(fG je ho).2.inv
 refine zz ?_
 rename_i its2 j2
 have r2':=r2.reverse
 rw[dZ] at r2'
 have hL:n1.h.IsList (n1.X.θ b) its2.toArray:=⟨_,g2,rfl,j2,rfl⟩
 have hne:n1.X.θ b≠n1.h.objs.size:=λq=>by rw[q,bJ] at g2;exact bR g2
 have MX:its2.length=rev.length:=by rw[r2'.length,av]
 refine wpAny_pyIter_list (s:=⟨n1.h,g,d,GI,os⟩) hL ⟨n1.h.objs.size,[n1.h.objs.size,n1.X.θ b],[n1.h.objs.size],its2.toArray.size,_,_,rfl,Walks.list hh _ _ hne its2.toArray,by rw[aG,MX,sizeLine_eq];unfold aB at hz;omega,⟨⟨_,aL _ rfl,rfl,rfl⟩,_,aq _ g2,rfl,j2,rfl⟩,?_,?_,?_⟩
 ·intro c hc
  show c<(n1.h.push _).objs.size
  rw[eY]
  have:=bB g2
  rcases ay.mp hc with e | hc
  ·rw[e];exact f9 _
  ·rw[az.mp hc];exact Nat.lt_succ_of_lt this
 ·refine⟨λC i v s₃ m₃ E' z_ hN hm z_=>?_,λC i v s₃ m₃ E' hv z_ hN hm z_=>?_,λC i v s₃ m₃ E' z_ z_ z_ z_ z_=>?_⟩
  ·exact wpAny_pure ⟨rfl,s₃.heap,s₃.toks,rfl,λz_ z_ e=>e⟩
  ·refine fO λzz=>?_
   obtain⟨i',t,_,rfl⟩:=vB r2' hi (by simpa using hv)
   refine zz ?_
   exact wpAny_Name (wpAny_loadName_local (by simp[compEnvC,relabel,h2]) (lookup_relabel_local h4) hN hm ⟨⟨i',by show(i' == i')=true;simp,t,rfl⟩,s₃.heap,s₃.toks,rfl,λz_ z_ e=>e⟩) hd'
  ·exact wpAny_Constant_int ⟨trivial,s₃.heap,s₃.toks+1,rfl,λz_ z_ e=>e⟩
 ·intro D h' tk' kvs vs hD hdict hvl hvs hst kp
  have hf':vs.filter (λz_=>true)=vs:=List.filter_eq_self.mpr λz_ z_=>rfl
  rw[hf'] at hst
  have hP:∀ (j:Nat) (v:af),vs[j]? =some v→∃ (i:Int) (t:Tok),is[j]? =some i∧v= .int i t:=λj v e=>vB r2' hi (by simpa using hvs j v e)
  have Qk:=(mG _ hi).1
  rw[av] at Qk
  rw[aG] at hvl
  have keys:=ue hst nd (hvl.trans (MX.trans Qk.symm)) hP
  have MT:kvs.length=rev.length:=by rw[←Qk, ←keys,aC]
  have nD:n1.h.get? D=none:=dg (λb o e=>⟨o,aq _ e⟩) hD
  have KP:∀ b o,n1.h.get? b=some o→h'.get? b=some o:=λb o e=>kp b o (λq=>by rw[az.mp q,bJ] at e;exact bR e) (aq _ e)
  have hkd:k ∉ n1.X.dom:=by rw[je.dom];exact jq hk
  have BQ:(n1.X.name k D [D]).θ k=D:=if_pos rfl
  obtain⟨iw,inv2⟩:=r_ je.inv hkd (.fZ true rev.length) h' D [D] KP
   (.fZ (kvs:=kvs) (by rw[BQ];exact hdict) (by rw[BQ];exact if_pos (az.mpr rfl)) (aQ MT) (λz_=>MT))
   (λa ha=>by rw[az.mp ha];obtain⟨o,es,ep,e,_⟩:=hdict;exact⟨nD,o,e⟩) [] f.cZ []
  have vr:=aW.loc (X:=n1.X.name k D [D]) (n:=k) cR
  rw[BQ] at vr
  exact(P' _ tk' {σ1 with dom:=k::σ1.dom,foot:=(k,.fZ true rev.length)::σ1.foot} (jf.trans iw.wide) (je.pN iw inv2 (by show k::n1.X.dom=k::σ1.dom;rw[je.dom]) rfl rfl)).1 _ hq _ vr
variable{l:Nat}{fv:MV}{args args':List MV}{kw:List (Str×MV)}{F:br}{Q Q':Res MV→br→Prop}
theorem ao.conv(h:ao S l fv args kw F Q')(ha:∀ X vs,bY X vs args'→bY X vs args)(k:∀ m F',Q' (.ok m) F'→∃ m',Q (.ok m') F'∧∀ X v,aW X v m→aW X v m')(ke:∀ t F',Q' (.exc t) F'→Q (.exc t) F'):ao S l fv args' kw F Q:=by
 refine⟨λA fr n v vs kvs g d tk os R' room hh cr hv hvs hkv P'=>?_⟩
 refine h.run A fr n v vs kvs g d tk os R' room hh cr hv (ha _ _ hvs) hkv λn' tk' F' ev C5=>⟨λm hq a hm=>?_,λt hq e fl=>(P' n' tk' F' ev C5).2 t (ke t F' hq) e fl⟩
 refine E1_2 (k m F' hq) λm' hq' hw=>?_
 exact(P' n' tk' F' ev C5).1 m' hq' a (hw _ _ hm)
theorem ao.l_(h:ao S l fv args kw F (Cb F λr F'=>match r with
  | .ok (.pv (.obj _ C fs))=>Q (.ok (.pv (.obj none C fs))) F'
  | .ok _=>False
  | .exc t=>Q (.exc t) F')):ao S l fv args kw F Q:=by
 refine h.freeze.conv (λz_ z_ h=>h) (λm F' hq=>?_) λt F' hq=>hq
 cases m with
 | pv p=>cases p with
  | obj tag C fs=>exact⟨_,hq,λX v hv=>.pv (by
    refine E4_5 ((nU hv).inv) λz d es j DY t1 g1 g2 r=>?_
    subst DY
    exact .obj (λz_ e=>bR e) g1 g2 r)⟩
  | _=>exact hq.elim
 | _=>exact hq.elim
noncomputable def NP(ns:List Nat)(r:Res MV):Bool:=Res.casesOn (motive:=λz_=>Bool) r (λm=>kh ns m) (λz_=>true)
noncomputable def vQ(F:br)(ns:List Nat)(Q:Res MV→br→Prop)(r:Res MV)(F':br):Prop:=aF (pull F' ns) (λG=>rK (DI (F.map (·.1)) ns&&(ig ns G&&NP ns r)) (Q r G) False) False
theorem ao.tidy(ns:List Nat)(h:ao S l fv args kw F (vQ F ns Q)):ao S l fv args kw F Q:=by
 refine⟨λA fr n v vs kvs g d tk os R' room hh cr hv hvs hkv P'=>?_⟩
 refine h.run A fr n v vs kvs g d tk os R' room hh cr hv hvs hkv λn' tk' F' ev C5=>?_
 have key:∀ r,vQ F ns Q r F'→∃ G,Q r G∧NP ns r=true∧CRel S fr G (G.map (·.1)) ⟨{n'.X with dom:=ns},n'.h⟩∧dB [] (fr.filterMap (·.frame)) [] n ⟨{n'.X with dom:=ns},n'.h⟩:=λr hq=>by
  unfold vQ at hq
  cases hp:pull F' ns with
  | none=>rw[hp] at hq;exact hq.elim
  | some G=>
   rw[hp] at hq
   refine A2 (h_ hq) λhc hq=>?_
   refine A2 (aj.mp hc) λc1 hc=>?_
   refine A2 (aj.mp hc) λc2 c3=>?_
   have hs:=uh c1
   exact⟨G,hq,c3,C5.keep hp c2,⟨⟨ev.le.P,ev.le.G,λk hk=>hs k (by rw[←cr.dom];exact hk),λk hk=>ev.le.θ k hk⟩,ev.keep,ev.live,ev.mW,ev.jt⟩⟩
 refine⟨λm hq a ha=>?_,λt hq e fl=>?_⟩
 ·refine E1_4 (key _ hq) λG hq hr Kc iw=>?_
  exact(P' _ tk' G iw Kc).1 m hq a (aW.part (X:=n'.X) (X':={n'.X with dom:=ns}) ⟨rfl,λz_ z_ e=>e,λz_ h=>h,λz_ z_=>rfl⟩ ha hr)
 ·refine E1_4 (key _ hq) λG hq hr Kc iw=>?_
  refine(P' _ tk' G iw Kc).2 t hq e ?_
  have hb:∀ a,lR n.h n' a→lR n.h ⟨{n'.X with dom:=ns},n'.h⟩ a:=λa b=>⟨b.new,b.own,b.G⟩
  exact f7.map fl hb rfl λd vs w=>w.imp_right λt=>t.map hb λz_=>id
end
structure D3(S:Sx):Prop where
 kind:S.fN.scope.kind= .function
 co:S.fN.scope.isCoroutine=false
 gen:S.fN.scope.isGenerator=false
 names:S.fN.scope.names=[(("word":Str),.local),(("asked":Str),.free),(("known":Str),.free),(("PsError":Str),.globalImplicit)]
 bind:∀ cl doc pm cd ct v St,peek S.K St (bindArgs (fnX S.fN.name S.fN.qual S.fN.params S.fN.body S.fN.scope cl .none .none doc pm none cd ct) ⟨[v],[]⟩)=some [(("word":Str),v)]
structure I1(S:Sx)(f:Fx)(l:Nat):Prop where
 ok:f.Ok
 nodup:(f.env.cells.map (·.2)).Nodup
 scope:f.env.scope=S.fN.scope
 lv:f.lv=l-1
 own:∃ outer,f.fr=f.env::outer
 frame:f.env.frame=some f.env.locals
 hand:f.A.handled=none
section
variable{S:Sx}{P:Pg}{F:br}{l k a b:Nat}{p:MV}{Q:Res MV→br→Prop}
set_option tactic.hygienic true in
theorem Er(hS:S.Ok)(O:ic S P)(C:D3 S)(hl:1≤l)(hne:a≠b)(ho:cN F k=some (.clos a b)){ra:List PV}{eb:List (List UInt8×PV)}(ha:cN F a=some (.list ra))(hb:cN F b=some (.iT eb))
  (hbody:∀ f:Fx,I1 S f l→∀ n,bu S f ⟨[(("word":Str),p),(("asked":Str),.loc a),(("known":Str),.loc b)],F,F.map (·.1),[]⟩ n→At S f (WP S f (execs S.fN.body f.env)) dc (Dt F Q) n):
  ao S l (.loc k) [p] [] F Q:=by
 refine⟨λA fr n v vs kvs g d tk os R' room hh cr hv hvs hkv P'=>?_⟩
 refine A2 (ur hv) λAf hkd=>?_
 subst Af
 obtain⟨d1,d2,gg,rc,ga,da,gk,dk⟩:=(cr.inv.foot k _ ho).2.inv
 rename_i doc pm c ctv ca ck oa ok
 refine E2_3 hvs.inv λpv vs eV hp P7=>?_
 subst eV
 cases P7.inv
 cases hkv.nil_inv rfl
 have kb:∀ b o,S.h₀.get? b=some o→n.h.get? b=some o:=λb o e=>cr.inv.sub b o (cr.inv.base b o e)
 have XK:=hS.X.keeps kb
 refine E3_3 rc λoc vc tc r1 r2 r3=>?_
 have hca:=cr.inv.sub _ _ ga
 have hck:=cr.inv.sub _ _ gk
 refine jr (s:=⟨n.h,g,d,tk,os⟩) (by have:=room.depth;show A.depth<1000;exact aY (aa (aT _ _) this) (by decide)) (cr.inv.sub _ _ gg) rfl C.co C.gen rfl ⟨c,oc,vc,tc,rfl,cr.inv.sub _ _ r1,r2,r3⟩ ?_
 refine fR (Looks.of_peek XK (C.bind _ _ _ _ _ _ _)) ?_
 have nm:=C.names
 refine bS (wpAny_newFunctionEnv (λx hx=>?_) (λx hx=>?_) (λh' hns Cc=>?_) C.kind)
 ·rw[nm] at hx
  simp only[ay,jI,or_false] at hx
  rcases hx with rfl | rfl | rfl | rfl <;> nofun
 ·rw[az.mp hx,nm];rfl
 have kp:∀ b o,n.h.get? b=some o→h'.get? b=some o:=λb o e=>(Cc.2 b (fy (bB e))).trans (aq _ e)
 refine⟨hS.T.nolimit.keeps λb o e=>kp b o (kb b o e),xr ?_⟩
 generalize tw:newEnv S.fN.scope n.h.objs.size mainGlobals [(("known":Str),ck),(("asked":Str),ca)] (S.fN.qual++".<locals>.") (some (n.X.θ k)) (.ref c) none builtinsNs=env
 have eL:env.locals=n.h.objs.size:=by rw[←tw];rfl
 have eC:env.cells=[(("known":Str),ck),(("asked":Str),ca)]:=by rw[←tw];rfl
 have eS:env.scope=S.fN.scope:=by rw[←tw];rfl
 have eF:env.frame=some env.locals:=by rw[←tw];rfl
 have nL:n.h.get? env.locals=none:=by rw[eL];exact bJ _
 have frozen:∀ c ∈ env.cells.map (·.2),∃ o,n.X.G c=some o:=λc hc=>by
  rw[eC] at hc
  rcases ay.mp hc with e | hc
  ·exact⟨ok,e▸gk⟩
  ·rw[az.mp hc];exact⟨oa,ga⟩
 have hkind:∀ y,env.kindOf y=lk S.fN.scope.names y:=λy=>by rw[jY, ←eS];rfl
 have R_:ck≠ca:=λq=>by
  rw[q,ga] at gk
  cases gk
  rw[da] at dk
  injection dk with dk;injection dk with dk;injection dk with dk
  obtain⟨g1,o1,_⟩:=(cr.inv.foot a _ ha).2.inv
  obtain⟨g2,o2,_⟩:=(cr.inv.foot b _ hb).2.inv
  rw[dk,o2] at o1
  exact hne (aK o1).symm
 have JC:(⟨A.deeper env,env,env::fr,l-1⟩:Fx).Ok:=by
  obtain⟨r1,r2,r3⟩:=room
  refine⟨⟨?_,?_,?_⟩,by show env.scope.kind=_;rw[eS];exact C.kind,by rw[←tw];rfl,by rw[←tw];rfl,λx hx hc=>?_,⟨env,fr,rfl,rfl,by rw[eF];rfl⟩,λz_=>hh⟩
  ·show A.frames.map _=_;rw[r1];rfl
  ·show A.depth+1+3*(l-1)≤880;exact Rm hl r2 (by decide)
  ·show A.units+3+24*(l-1)≤9600;exact Rm hl r3 (by decide)
  ·refine E1_1 (frozen x hc) λo z=>?_
   rcases ay.mp hx with e | hx
   ·have e:x=env.locals:=e
    have:=cr.inv.sub _ _ z
    rw[e,nL] at this;exact bR this
   ·have hx:x ∈ (env::fr).filterMap (·.frame):=hx
    rw[eK,eF] at hx
    rcases ay.mp hx with e | hx
    ·have:=cr.inv.sub _ _ z
     rw[e,nL] at this;exact bR this
    ·have:=(cr.off x hx).2.1
     rw[z] at this;exact Ag this
 have en:I1 S ⟨A.deeper env,env,env::fr,l-1⟩ l:=⟨JC,by
  show(env.cells.map (·.2)).Nodup
  rw[eC];simpa using R_,eS,rfl,⟨fr,rfl⟩,eF,hh⟩
 have oL:=aZ cr.inv nL
 have rel:bu S ⟨A.deeper env,env,env::fr,l-1⟩ ⟨[(("word":Str),p),(("asked":Str),.loc a),(("known":Str),.loc b)],F,F.map (·.1),[]⟩ ⟨n.X,h'⟩:=by
  refine⟨⟨cr.inv.grow kp,cr.dom,λx hx=>?_,?_,?_⟩,?_,oL,λc hc=>?_⟩
  ·have hx:x ∈ (env::fr).filterMap (·.frame):=hx
   rw[eK,eF] at hx
   rcases ay.mp hx with e | hx
   ·subst e;exact⟨oL.1,oL.2,by rw[eL];exact Ns.live hns⟩
   ·obtain⟨h1,h2,o,h3⟩:=cr.off x hx
    exact⟨h1,h2,o,kp x o h3⟩
  ·rw[eS,C.kind];decide
  ·refine⟨?_,m6 (λb o e z_=>⟨o.slots,kp b o e⟩) cr.frames⟩
   refine E3_3 hns λo es ep ho hd z_=>?_
   refine⟨env.locals,o,eF,?_,by rw[eL];exact ho,λvs q=>by rw[hd] at q;cases q⟩
   cases q:dS.get? env.locals with
   | none=>rfl
   | some o=>exact absurd (bB q) (Nat.not_lt_zero _)
  ·refine⟨_,by rw[eL];exact hns,λy mv e=>?_,λy hy=>jd hy⟩
   have e:cond (bT "word" y) (some p) (cond (bT "asked" y) (some (.loc a)) (cond (bT "known" y) (some (.loc b)) none))=some mv:=e
   show∃ v,_∧match env.kindOf y with | some .local=>_ | some .cell | some .free=>_ | _=>False
   rw[hkind,nm]
   cases q1:bT "word" y with
   | true=>
    rw[q1] at e;cases e;cases bZ.mp q1
    exact⟨pv,hp,rfl⟩
   | false=>
   rw[q1] at e
   cases q2:bT "asked" y with
   | true=>
    rw[q2] at e;cases e;cases bZ.mp q2
    exact⟨_,.loc d1,ca,oa,by show env.cells.lookup _=_;rw[eC];rfl,ga,da⟩
   | false=>
   rw[q2] at e
   cases q3:bT "known" y with
   | true=>
    rw[q3] at e;cases e;cases bZ.mp q3
    exact⟨_,.loc d2,ck,ok,by show env.cells.lookup _=_;rw[eC];rfl,gk,dk⟩
   | false=>rw[q3] at e;exact bR e
  ·refine E1_1 (frozen c hc) λo z=>?_
   exact⟨o,kp c o (cr.inv.sub _ _ z)⟩
 have at_:=hbody _ en ⟨n.X,h'⟩ rel
 have vG:∀ b o,n.h.get? b=some o→∃ o',h'.get? b=some o':=λb o e=>⟨o,kp b o e⟩
 refine at_ g d (tk+1) os _ _ λn₂ tk₂ σ₂ ev gV=>⟨λfl hq GV hfl=>?_,λt hq e ER=>?_⟩
 ·refine A2 (h_ hq) λok' hq=>?_
  refine A3 (nj ok') λh1 h2 h3=>?_
  refine A2 (B9 cr eF nL (λc hc=>.inr (frozen c hc)) kp (.refl n.X) rfl (λb o e=>.inl e) ev gV h1 h2) λpM Ey=>?_
  refine(P' _ tk₂ σ₂.foot pM Ey).1 (Ie fl) hq _ ?_
  have key:∀ {v m},aW n₂.X v m→kh (σ₂.foot.map (·.1)) m=true→aW {n₂.X with dom:=σ₂.foot.map (·.1)} v m:=λhv hm=>
   aW.part (X:=n₂.X) (X':={n₂.X with dom:=σ₂.foot.map (·.1)}) ⟨rfl,λz_ z_ e=>e,λz_ h=>h,λz_ z_=>rfl⟩ hv hm
  cases hfl with
  | next=>exact .pv .none
  | cont=>exact .pv .none
  | brk=>exact .pv .none
  | ret hv=>exact key hv h3
 ·refine A2 (h_ hq) λok' hq=>?_
  refine A3 (nj ok') λh1 h2 z_=>?_
  have hoff:∀ b ∈ Fx.cZ ⟨A.deeper env,env,env::fr,l-1⟩,∃ o,h'.get? b=some o:=λb hb=>(rel.off b hb).2.2
  have PK:eN (some env.locals) t h' e n₂:=by
   have:=ER
   unfold Fx.L at this
   rw[show(Fx.env ⟨A.deeper env,env,env::fr,l-1⟩).frame=some env.locals from eF] at this
   exact this
  refine bS (leave_ JC eF ⟨fr,rfl⟩ hoff ev gV PK λh'' ev' rel' nf=>?_)
  refine A2 (B9 cr eF nL (λc hc=>.inr (frozen c hc)) kp (.refl n.X) rfl (λb o e=>.inl e) ev' rel' h1 h2) λpM Ey=>?_
  refine(P' _ tk₂ σ₂.foot pM Ey).2 t hq e ?_
  have hb:∀ a,lR n.h ⟨n₂.X,h''⟩ a→lR n.h ⟨{n₂.X with dom:=σ₂.foot.map (·.1)},h''⟩ a:=λa b=>⟨b.new,b.own,b.G⟩
  exact f7.map (nf.older vG) hb rfl λd vs w=>w.imp_right λt=>t.map hb λz_=>id
end
structure IZ(S:Sx)(c:au):Prop where
 hd:S.fN.params.defaults=[]
 hk:S.fN.params.kw_defaults=[]
 ann:∀ env,annTrees S.fN.params none env=[]
 code:codeHdIn S.K c S.fN.tab=true
 bt:∀ h:b9,(∀ b o,S.h₀.get? b=some o→h.get? b=some o)→h.BuiltinsAt S.mg S.fN.tab
 ne:mainGlobals≠S.fN.tab
theorem Ar(p:Pos)(v:af):codeAmong p [rawInt p.line,rawInt p.col,v]=some v:=by
 show(if((p.line:Int) == p.line&&(p.col:Int) == p.col)=true then some v else none)=some v
 rw[beq_self_eq_true,beq_self_eq_true];rfl
section
variable{S:Sx}{f:Fx}{sc:List (Str×aE)}{P:Pg}{n:Snap}{σ:St}
theorem Kf(hS:S.Ok)(hf:f.Ok)(hn:f.env.scope.names=sc)(C:D3 S){c:au}(D:IZ S c)(hcode:f.env.code= .ref c)(hq:qualnameIn f.env S.fN.name S.fN.name=S.fN.qual){t k a b:Nat}{made:Bool}{Q:Res cj→St→Prop}
  (h1:lk σ.locs "asked"=some (.loc a))(h2:lk sc "asked"=some .cell)(h3:lk σ.locs "known"=some (.loc b))(h4:lk sc "known"=some .cell)(h5:lk sc S.fN.name=some .local)(ht:cN σ.foot t=some (.tab made))(hk:bL k σ.dom=false)
  (hQ:Q (.ok .next) {σ with locs:=Mine.put σ.locs S.fN.name (.loc k),dom:=k::σ.dom,foot:=(k,.clos a b)::jV σ.foot t (.tab true)}):
  gE S f (.FunctionDef S.fN.name S.fN.params S.fN.body [] none [] S.fN.scope none S.fN.name S.fN.pos) σ Q:=by
 refine⟨λn rel g d tk os Q' E' P'=>bS (nestDef_K D.hd D.hk (D.ann _) ?_)⟩
 have kb:=rel.dU
 have XK:=hS.X.keeps kb
 refine A2 (fG rel ht) λhtd r=>?_
 refine E1_4 r.inv λps gt ot ti et=>?_
 refine E1_3 rel.locs λm hm l1 l2=>?_
 refine E1_2 (l1 _ _ h1) λva Tc ra=>?_
 refine E1_2 (l1 _ _ h3) λvb Td rb=>?_
 rw[ee hn,h2] at ra
 rw[ee hn,h4] at rb
 refine E2_3 ra λca oa ka ga da=>?_
 refine E2_3 rb λck ok kk gk dk=>?_
 refine A2 (ur Tc) λAf ad=>?_
 subst Af
 refine A2 (ur Td) λAf bd=>?_
 subst Af
 have Ro:frees S.fN.scope.names=[("asked":Str),("known":Str)]:=by rw[C.names];rfl
 have hcl:closureFor S.fN.scope f.env=pure [(("known":Str),ck),(("asked":Str),ca)]:=by
  rw[jw (by rw[Ro];exact gP.mpr ⟨⟨ca,ka⟩,gP.mpr ⟨⟨ck,kk⟩,λz_ h=>jd h⟩⟩)]
  unfold iU
  rw[Ro]
  show pure [(("known":Str),(f.env.cells.lookup ("known":Str)).getD 0),(("asked":Str),(f.env.cells.lookup ("asked":Str)).getD 0)]=_
  rw[ka,kk];rfl
 have gt':n.h.get? S.fN.tab=some (tabObj ps):=et▸gt
 have kn:∀ b o,n.h.get? b=some o→b≠n.h.objs.size:=λb o e q=>by rw[q,bJ] at e;exact bR e
 have fin:∀ (c':au) (oc:Obj) (vs:Array af) (tq:Tok) (doc pm ctv:af) (h':b9) (tk':Nat),(∀ b o,n.h.get? b=some o→b≠S.fN.tab→h'.get? b=some o)→n.h.objs.size≤h'.objs.size→c'<h'.objs.size→(n.X.G c'=some oc∨n.h.get? c'=none)→
   h'.get? c'=some oc→oc.data= .fields vs→vs[1]? =some (.str S.fN.qual tq)→h'.get? S.fN.tab=some (tabObj #[rawInt S.fN.pos.line,rawInt S.fN.pos.col,.ref c'])→
   wpAny (model S.prog S.w) f.A (storeName f.env S.fN.name (.ref h'.objs.size)) (λz_ s''=>Q' .next s'') E' ⟨h'.push (fnMade S.fN.name S.fN.qual S.fN.params S.fN.body S.fN.scope [(("known":Str),ck),(("asked":Str),ca)] doc pm c' ctv),g,d,tk',os⟩:=by
  intro c' oc vs tq doc pm ctv h' tk' kp hz hlt gc SJ Rv hv1 Mw
  generalize Rr:fnMade S.fN.name S.fN.qual S.fN.params S.fN.body S.fN.scope [(("known":Str),ck),(("asked":Str),ca)] doc pm c' ctv=FN
  have pk:∀ b o,h'.get? b=some o→(h'.push FN).get? b=some o:=λb o e=>aq _ e
  have nA:∀ b o,n.h.get? b=some o→b≠h'.objs.size:=λb o e=>fy (kH (bB e) hz)
  have Tj:n.h.get? h'.objs.size=none:=by
   cases q:n.h.get? h'.objs.size with
   | none=>rfl
   | some o=>exact absurd rfl (nA _ o q)
  have gA:(h'.push FN).get? h'.objs.size=some FN:=aL _ (by rw[←Rr];rfl)
  have lv:∀ b o,n.h.get? b=some o→∃ o',(h'.push FN).get? b=some o':=λb o e=>by
   by_cases q:b=S.fN.tab
   ·rw[q];exact⟨_,pk _ _ Mw⟩
   ·exact⟨o,pk _ _ (kp b o e q)⟩
  have nc:∀ b o,n.h.get? b=some o→n.X.G b=none→b≠c':=λb o e e2 q=>by
   subst q
   rcases gc with z | z
   ·rw[e2] at z;exact bR z
   ·rw[e] at z;exact Ag z
  let G2:au→Option Obj:=λx=>if x=h'.objs.size then some FN else if x=c' then some oc else n.X.G x
  have g1:∀ a o,n.X.G a=some o→G2 a=some o:=λa o e=>by
   show(if _ then _ else if _ then _ else _)=_
   rw[if_neg (nA a o (rel.inv.sub a o e))]
   by_cases q:a=c'
   ·rw[if_pos q]
    subst q
    rcases gc with z | z
    ·rw[←z,e]
    ·rw[rel.inv.sub a o e] at z;exact Ag z
   ·rw[if_neg q];exact e
  refine fO λzz=>?_
  obtain⟨jf,inv1⟩:=lQ (F':=jV σ.foot t (.tab true)) (h':=h'.push FN) (own':=n.X.own) (G':=G2) rel.inv htd
   (λb ob e hne=>pk _ _ (kp b ob e (λq=>hne (by rw[q, ←et];exact ot)))) lv (λz_ z_ z_=>Iff.rfl)
   (λa ha=>by
    obtain⟨z1,o,z2⟩:=rel.inv.off a t ha
    refine⟨.inl ha,?_,lv a o z2⟩
    show(if _ then _ else if _ then _ else _)=_
    rw[if_neg (nA a o z2),if_neg (nc a o z2 z1)];exact z1) g1
   (λa o e=>by
    have e:(if a=h'.objs.size then some FN else if a=c' then some oc else n.X.G a)=some o:=e
    by_cases q:a=h'.objs.size
    ·rw[if_pos q] at e;cases e;exact .inr ⟨.inr (q▸Tj),q▸gA⟩
    ·rw[if_neg q] at e
     by_cases q:a=c'
     ·rw[if_pos q] at e;cases e
      subst q
      rcases gc with z | z
      ·exact .inl z
      ·exact .inr ⟨.inr z,pk _ _ SJ⟩
     ·rw[if_neg q] at e;exact .inl e)
   (λj o e=>by
    rcases iW e with ⟨z1,z2⟩ | ⟨z1,z2,_⟩
    ·exact .inl ⟨z1,z2⟩
    ·refine .inr ⟨z1,?_⟩
     rw[z2]
     refine .tab (by rw[et];exact pk _ _ Mw) ot ⟨c',rfl,oc,vs,tq,?_,Rv,hv1⟩ et
     show(if _ then _ else if _ then _ else _)=_
     rw[if_neg (fy hlt),if_pos rfl]) f.cZ
  have je:bu S f {σ with foot:=jV σ.foot t (.tab true)} ⟨{n.X with own:=n.X.own,G:=G2},h'.push FN⟩:=rel.pN jf inv1 rel.dom rfl rfl
  have hkd:k ∉ n.X.dom:=by rw[rel.dom];exact jq hk
  have ak:a≠k:=λq=>hkd (q▸ad)
  have bk:b≠k:=λq=>hkd (q▸bd)
  have R0:G2 h'.objs.size=some FN:=if_pos rfl
  obtain⟨iw,kK⟩:=kN.name (n₀:=n) (as:=[]) (a:=h'.objs.size) (k:=k) (o:=.clos a b) (f:=f) ⟨λb h=>(jd h),λb h=>(jd h),λb h=>(jd h)⟩ je jf.wide (λb h=>(jd h)) (λb h=>(jd h)) hkd
   (.clos (qU.mk (doc:=doc) (pm:=pm) (c:=c') (ctv:=ctv) (ca:=ca) (ck:=ck) (.tail _ ad) (.tail _ bd) (by
    show G2 (if k=k then _ else _)=_
    rw[if_pos rfl,Rr];exact R0) ⟨oc,vs,tq,by
    show(if _ then _ else if _ then _ else _)=_
    rw[if_neg (fy hlt),if_pos rfl],Rv,hv1⟩ (g1 _ _ ga) (by
    show _=Data.cell (some (.ref (if a=k then _ else _)))
    rw[if_neg ak];exact da) (g1 _ _ gk) (by
    show _=Data.cell (some (.ref (if b=k then _ else _)))
    rw[if_neg bk];exact dk)))
  refine zz ?_
  have hk':f.env.kindOf S.fN.name=some .local:=by rw[ee hn,h5]
  have hp:(f.env.scope.kind == .class||(f.env.scope.kind == .module&&f.env.locals != f.env.globals))=false:=by rw[hf.kind];rfl
  refine E1_3 kK.locs λmm OH hl2 z_=>?_
  refine wpAny_storeName_local hk' OH (λh7 P6 Qd=>?_) hp
  have vr:=aW.loc (X:=({n.X with own:=n.X.own,G:=G2}:Rc).name k h'.objs.size []) (n:=k) cR
  have BQ:(({n.X with own:=n.X.own,G:=G2}:Rc).name k h'.objs.size []).θ k=h'.objs.size:=if_pos rfl
  rw[BQ] at vr
  refine A2 (m_ hf kK vr hk' hl2 P6 Qd) λpM qO=>?_
  exact(P' _ _ _ (iw.trans pM) qO).1 _ hQ _ .next
 rw[hq]
 have hg:=hS.T.g.keeps kb
 have B:=D.bt n.h kb
 have CH:=codeHd_of_K XK D.code
 cases made with
 | false=>
  obtain rfl:ps= #[]:=ti
  refine makeFunction_K hcl hf.globals hg hcode CH gt' trivial rfl D.ne B λc' ctv doc h' tk' hx hge hlt hrec htb=>?_
  refine E4_4 hrec λc₂ oc vs tq e2 hoc hd hv=>?_
  cases e2
  exact fin c' oc vs tq doc _ ctv h' tk' (λb o e hb=>hx b o hb e) (eB (aY hge hlt)) hlt (.inr (by
   cases q:n.h.get? c' with
   | none=>rfl
   | some o=>exact absurd (bB q) (kI.mpr hge))) hoc hd hv htb
 | true=>
  refine fO λzz=>?_
  obtain⟨c0,rfl,oc,vs,tq,r1,r2,r3⟩:=ti
  refine zz ?_
  refine makeFunction_hit (cv:=.ref c0) hcl hf.globals hg hcode CH gt' trivial (Ar _ _) B λctv doc h' tk' kp hz=>?_
  have l0:=rel.inv.sub _ _ r1
  exact fin c0 oc vs tq doc _ ctv h' tk' (λb o e z_=>kp b o e) hz (kH (bB l0) hz) (.inl r1) (kp _ _ l0) r2 r3 (kp _ _ gt')
end
section
open MineH (KK bg mA fdOf pw)
noncomputable def Aa{α:Type}(v:af)(kn:α)(kb:Bool→α)(ki:Int→α)(ks:Str→α)(ky:Array UInt8→α)(kr:au→α)(e:α):α:=Value.casesOn (motive:=λz_=>α) v kn e e kb (λi z_=>ki i) (λz_ z_=>e) (λx z_=>ks x) (λb z_=>ky b) (λz_=>e) (λz_=>e) kr
noncomputable def B0{α:Type}(v:af)(k:au→α)(e:α):α:=Aa v e (λz_=>e) (λz_=>e) (λz_=>e) (λz_=>e) k e
noncomputable def I5{α:Type}(v:af)(k:Str→α)(e:α):α:=Aa v e (λz_=>e) (λz_=>e) k (λz_=>e) (λz_=>e) e
noncomputable def B6{α:Type}(d:Data)(k:List af→α)(e:α):α:=match d with | .fields vs=>k vs.toList | _=>e
theorem qw{v:af}{k:au→Bool}(h:B0 v k false=true):∃ a,v= .ref a∧k a=true:=by
 cases v <;> first | exact⟨_,rfl,h⟩ | exact gy h
theorem C2{v:af}{k:Str→Bool}(h:I5 v k false=true):∃ x t,v= .str x t∧k x=true:=by
 cases v <;> first | exact⟨_,_,rfl,h⟩ | exact gy h
theorem yE{d:Data}{k:List af→Bool}(h:B6 d k false=true):∃ vs,d= .fields vs∧k vs.toList=true:=by
 cases d <;> first | exact⟨_,rfl,h⟩ | exact gy h
theorem j8{β:Type}{o:Option β}{k:β→Bool}(h:aF o k false=true):∃ a,o=some a∧k a=true:=by
 cases o <;> first | exact⟨_,rfl,h⟩ | exact gy h
noncomputable def PR(K:Frag)(p:Str×au)(v:af):Bool:=B0 v (λq=>specialIn K (.ref q) "__get__" == some (some (.builtin "property.__get__"))&&(takesIn K (.ref q) == some true&&aF (recIn K q "property") (λl=>jL l (λv z_=>B0 v (λg=>g == p.2) false) false) false)) false
noncomputable def J'(K:Frag)(C:au)(c:LB):Bool:=plainGet K C ""&&(hasDictIn K C&&(plainOver K C&&(findIn K (.ref C) "__setattr__" == some (some (.builtin "object.__setattr__"))&&(c.fields.all (λx=>findIn K (.ref C) x == some none)&&
 (c.methods.all (λp=>findIn K (.ref C) p.1 == some (some (.ref p.2))&&(typeIn K (.ref p.2) == some (.type "function")&&(fnIn K p.2&&keepIn K (.ref p.2))))&&
 c.props.all λp=>aF (findIn K (.ref C) p.1) (λo=>aF o (PR K p) false) false)))))
set_option tactic.hygienic true in
theorem Ml{K:Frag}{C:au}{c:LB}(h:J' K C c=true):IY K C c:=by
 unfold J' at h
 simp only[jE,jH,beq_iff_eq] at h
 refine A7 h λh1 h2 h3 h4 h5 h6 h7=>?_
 refine⟨h1,h2,h3,h4,h5,λx g e=>h6 (x,g) (oW e),λx g e=>?_⟩
 refine E1_2 (j8 (h7 (x,g) (oW e))) λo e1 h=>E1_2 (j8 h) λv e2 h=>E1_2 (qw h) λq e3 h=>?_
 simp only[jE,beq_iff_eq] at h
 refine A3 h λa b h=>E1_2 (j8 h) λl e4 h=>?_
 cases l with
 | nil=>exact gy h
 | cons v r=>exact E1_2 (qw h) λg' e5 h=>⟨q,r,by rw[e1,e2,e3],a,b,by rw[e4,e5,eq_of_beq h]⟩
noncomputable def Ei(b:FuncBody):List dO:=FuncBody.casesOn (motive:=λz_=>List dO) b (λb=>b) λz_=>[]
noncomputable def PL(K:Frag)(fd:eX):Bool:=FuncBody.casesOn (motive:=λz_=>Bool) fd.body (λz_=>true) (λz_=>false)&&(fd.closure.isEmpty&&(fd.scope.kind == .function&&(!fd.scope.isCoroutine&&(!fd.scope.isGenerator&&(fd.globals == mainGlobals&&(fd.builtins == builtinsNs&&
 B0 fd.code (λc=>aF (K.lookup c) (λo=>B6 o.data (λvs=>aF vs[1]? (λv=>I5 v (λx=>bT x fd.qualname) false) false) false) false) false))))))
set_option tactic.hygienic true in
theorem Kr{S:Sx}(hS:S.Ok){a:au}{fd:eX}(h:(S.K.lookup a).map (·.data)=some (.func fd))(hb:PL S.K fd=true):D6 S a fd (Ei fd.body):=by
 unfold PL at hb
 simp only[jE,beq_iff_eq,gO,List.isEmpty_iff] at hb
 refine A8 hb λb1 b2 b3 b4 b5 b6 b7 b8=>?_
 refine E1_2 (Option.map_eq_some_iff.mp h) λo h1 h2=>?_
 refine⟨⟨o,h1,h2⟩,?_,b2,b3,b4,b5,b6,b7,?_,hS.T.nolimit⟩
 ·cases e:fd.body with
  | stmts _=>rfl
  | expr _=>rw[e] at b1;exact gy b1
 ·refine E1_2 (qw b8) λc hc b8=>E1_2 (j8 b8) λoc hoc b8=>E1_2 (yE b8) λvs hvs b8=>E1_2 (j8 b8) λv hv b8=>E2_2 (C2 b8) λx t hx b8=>?_
  exact⟨c,oc,vs,t,hc,hS.X _ _ hoc,hvs,by rw[←Array.getElem?_toList,hv,hx,bZ.mp b8]⟩
noncomputable def E8(v:af)(i:Int):Bool:=Value.casesOn (motive:=λz_=>Bool) v false false false (λz_=>false) (λj z_=>decide (j=i)) (λz_ z_=>false) (λz_ z_=>false) (λz_ z_=>false) (λz_=>false) (λz_=>false) (λz_=>false)
noncomputable def Mp(v:af)(p:PV):Bool:=PV.casesOn (motive_1:=λz_=>Bool) p (v == .none) (λz_ b=>v == .bool b) (λz_ i=>E8 v i) (λz_ z_=>false) (λz_=>false) (λz_=>false) (λz_=>false) (λz_=>false) (λz_ z_ z_=>false) (λz_=>false) (λz_=>false)
theorem Hh{v:af}{p:PV}(h:Mp v p=true)(P:aV)(G:au→Option Obj):cy P G v p:=by
 cases p with
 | none=>cases eq_of_beq h;exact .none
 | bool l b=>cases eq_of_beq h;exact .bool
 | int l i=>
  cases v with
  | int j t=>cases of_decide_eq_true h;exact .int
  | _=>exact gy h
 | _=>exact gy h
noncomputable def tT(l:List Str):Bool:=bA (motive:=λz_=>Bool) true (λx r q=> !(r.any (bT x))&&q) l
theorem oZ{l:List Str}(h:tT l=true):l.Nodup:=by
 induction l with
 | nil=>exact jA
 | cons x r ih=>
  obtain⟨h1,h2⟩:=aj.mp (show(!(r.any (bT x))&&tT r)=true from h)
  refine bK.mpr ⟨λq=>?_,ih h2⟩
  rw[dG.mpr ⟨x,q,lO x⟩] at h1
  exact gy h1
noncomputable def BB(names:List (Str×aE))(cS:List (Str×Src)):Bool:=
 cS.all (λp=>Src.casesOn (motive:=λz_=>Bool) p.2 (λz_=>true) (λz_=>true) (λv q=>Mp v q))&&(cS.all (λp=>aF (lk names p.1) (λk=>fF (motive:=λz_=>Bool) k true true false false false) false)&&(tT (cS.map (·.1))&&
 ((u6 names cS).all (λx=>aF (lk names x) (λk=>fF (motive:=λz_=>Bool) k false true false false false) false)&&tT (names.map (·.1)))))
theorem zL{S:Sx}{fd:eX}{np:Nat}{uC:List Str}{cS:List (Str×Src)}(h:BB fd.scope.names cS=true)
  (hb:∀ vs kvs,vs.length=np→kvs.map (·.1)=uC→∀ St,peek S.K St (bindArgs fd ⟨vs,kvs⟩)=some (qN vs kvs cS)):Shape S fd np uC cS:=by
 unfold BB at h
 simp only[jE,jH] at h
 refine A5 h λh1 h2 h3 h4 h5=>?_
 refine⟨hb,λx v p hx=>Hh (h1 _ hx),λp hp=>?_,oZ h3,λx hx=>?_,oZ h5⟩
 ·have:=h2 p hp
  cases q:lk fd.scope.names p.1 with
  | none=>rw[q] at this;exact gy this
  | some k=>rw[q] at this;cases k <;> first | exact .inl rfl | exact .inr rfl | exact gy this
 ·have:=h4 x hx
  cases q:lk fd.scope.names x with
  | none=>rw[q] at this;exact gy this
  | some k=>rw[q] at this;cases k <;> first | rfl | exact gy this
theorem nR{α:Type}{n:Nat}{l:List α}(h:l.length=n+1):∃ a r,l=a::r∧r.length=n:=by
 cases l with
 | nil=>exact nomatch h
 | cons a r=>exact⟨a,r,rfl,Nat.succ.inj h⟩
section
variable{K:Frag}{fd:eX}{cS:List (Str×Src)}
noncomputable abbrev lS(K:Frag)(fd:eX)(np:Nat)(uC:List Str)(cS:List (Str×Src)):Prop:=∀ vs kvs,vs.length=np→kvs.map (·.1)=uC→∀ St,peek K St (bindArgs fd ⟨vs,kvs⟩)=some (qN vs kvs cS)
theorem bind1(h:∀ a St,peek K St (bindArgs fd ⟨[a],[]⟩)=some (qN [a] [] cS)):lS K fd 1 [] cS:=λvs kvs e e'=>by
 cases ir.mp e'
 refine E2_2 (nR e) λa v1 eV e1=>?_
 subst eV
 cases cQ e1
 exact h a
theorem g7(h:∀ a b St,peek K St (bindArgs fd ⟨[a,b],[]⟩)=some (qN [a,b] [] cS)):lS K fd 2 [] cS:=λvs kvs e e'=>by
 cases ir.mp e'
 refine E2_2 (nR e) λa v1 eV e1=>?_
 subst eV
 refine E2_2 (nR e1) λb v2 eV e2=>?_
 subst eV
 cases cQ e2
 exact h a b
theorem sU(h:∀ a b c St,peek K St (bindArgs fd ⟨[a,b,c],[]⟩)=some (qN [a,b,c] [] cS)):lS K fd 3 [] cS:=λvs kvs e e'=>by
 cases ir.mp e'
 refine E2_2 (nR e) λa v1 eV e1=>?_
 subst eV
 refine E2_2 (nR e1) λb v2 eV e2=>?_
 subst eV
 refine E2_2 (nR e2) λc v3 eV e3=>?_
 subst eV
 cases cQ e3
 exact h a b c
theorem yl(h:∀ a b c d St,peek K St (bindArgs fd ⟨[a,b,c,d],[]⟩)=some (qN [a,b,c,d] [] cS)):lS K fd 4 [] cS:=λvs kvs e e'=>by
 cases ir.mp e'
 refine E2_2 (nR e) λa v1 eV e1=>?_
 subst eV
 refine E2_2 (nR e1) λb v2 eV e2=>?_
 subst eV
 refine E2_2 (nR e2) λc v3 eV e3=>?_
 subst eV
 refine E2_2 (nR e3) λd v4 eV e4=>?_
 subst eV
 cases cQ e4
 exact h a b c d
theorem ym(h:∀ a b c d g St,peek K St (bindArgs fd ⟨[a,b,c,d,g],[]⟩)=some (qN [a,b,c,d,g] [] cS)):lS K fd 5 [] cS:=λvs kvs e e'=>by
 cases ir.mp e'
 refine E2_2 (nR e) λa v1 eV e1=>?_
 subst eV
 refine E2_2 (nR e1) λb v2 eV e2=>?_
 subst eV
 refine E2_2 (nR e2) λc v3 eV e3=>?_
 subst eV
 refine E2_2 (nR e3) λd v4 eV e4=>?_
 subst eV
 refine E2_2 (nR e4) λg v5 eV e5=>?_
 subst eV
 cases cQ e5
 exact h a b c d g
theorem J7{x:Str}(h:∀ a b St,peek K St (bindArgs fd ⟨[a],[(x,b)]⟩)=some (qN [a] [(x,b)] cS)):lS K fd 1 [x] cS:=λvs kvs e e'=>by
 refine E2_2 (nR e) λa v1 eV e1=>?_
 subst eV
 cases cQ e1
 cases kvs with
 | nil=>exact nomatch e'
 | cons p r=>
  obtain⟨y,b⟩:=p
  injection e' with e2 e3
  cases ir.mp e3
  cases e2
  exact h a b
end
end
section
open MineH (KK bg mA fdOf pw)
noncomputable def bodyOf(st:dO):List dO:=MineH.OP st (λz_ z_ b z_ z_=>b) []
noncomputable def aP(st:dO):List (Str×aE):=MineH.OP st (λz_ z_ z_ sc z_=>sc.names) []
noncomputable def gY(st:dO)(q:String)(dV:af)(c:au)(m:String)(t:Nat):eX:=fdOf st q mainGlobals dV (.ref c) (.str (d_ m) t)
noncomputable def F_(f:af→PV→Bool)(vs:List af):List PV→Bool:=bA (motive:=λz_=>List PV→Bool) (λps=>jg ps true false) (λv z_ q ps=>jL ps (λp ps=>f v p&&q ps) false) vs
noncomputable def isTup(o:Obj)(k:List af→Bool):Bool:=Obj.casesOn (motive:=λz_=>Bool) o λc d dt sl=>decide (c= .type "tuple")&&(aF d (λz_=>false) true&&(aX sl.size 0&&match dt with | .seq its _=>k its.toList | _=>false))
noncomputable def LL(K:Frag)(n:Nat):af→PV→Bool:=Nat.rec (motive:=λz_=>af→PV→Bool) (λz_ z_=>false) (λz_ q v p=>PV.casesOn (motive_1:=λz_=>Bool) p false (λz_ b=>decide (v= .bool b)) (λz_ i=>E8 v i)
 (λz_ b=>Aa v false (λz_=>false) (λz_=>false) (λz_=>false) (λa=>decide (a.toList=b)) (λz_=>false) false) (λx=>Aa v false (λz_=>false) (λz_=>false) (λy=>bT y x) (λz_=>false) (λz_=>false) false)
 (λps=>Aa v false (λz_=>false) (λz_=>false) (λz_=>false) (λz_=>false) (λa=>aF (K.lookup a) (λo=>isTup o λits=>F_ q its ps) false) false) (λz_=>false) (λz_=>false) (λz_ z_ z_=>false) (λw=>decide (v=w)) (λz_=>false)) n
theorem Ga{P:aV}{G:au→Option Obj}{f:af→PV→Bool}(hf:∀ v p,f v p=true→cy P G v p){vs:List af}:∀ {ps},F_ f vs ps=true→bQ P G vs ps:=by
 induction vs with
 | nil=>intro ps h;cases ps with
  | nil=>exact .nil
  | cons _ _=>exact gy h
 | cons v vs ih=>intro ps h;cases ps with
  | nil=>exact gy h
  | cons p ps=>
   obtain⟨h1,h2⟩:=aj.mp (show(f v p&&F_ f vs ps)=true from h)
   exact .cons (hf v p h1) (ih h2)
theorem Dg{o:Obj}{k:List af→Bool}(h:isTup o k=true):∃ its n,o=o8 its n∧k its=true:=by
 obtain⟨c,d,dt,sl⟩:=o
 obtain⟨h1,h⟩:=aj.mp h
 obtain⟨h2,h⟩:=aj.mp h
 obtain⟨h3,h⟩:=aj.mp h
 cases of_decide_eq_true h1
 cases d with
 | some _=>exact gy h2
 | none=>
 obtain rfl:sl= #[]:=Array.eq_empty_of_size_eq_zero (bX h3)
 cases dt with
 | seq its n=>exact⟨its.toList,n,rfl,h⟩
 | _=>exact gy h
theorem Cs{P:aV}{K:Frag}{G:au→Option Obj}(X:∀ a o,K.lookup a=some o→G a=some o)(n:Nat):∀ {v p},LL K n v p=true→cy P G v p:=by
 induction n with
 | zero=>intro v p h;exact gy h
 | succ n ih=>
  intro v p h
  cases p with
  | int l i=>cases v with
   | int j t=>cases of_decide_eq_true h;exact .int
   | _=>exact gy h
  | bytes l b=>cases v with
   | bytes a t=>obtain rfl:a.toList=b:=of_decide_eq_true h;exact .bytes
   | _=>exact gy h
  | str x=>cases v with
   | str y t=>cases bZ.mp h;exact .str
   | _=>exact gy h
  | tup ps=>cases v with
   | ref a=>
    have h:aF (K.lookup a) (λo=>isTup o λits=>F_ (LL K n) its ps) false=true:=h
    cases q:K.lookup a with
    | none=>rw[q] at h;exact gy h
    | some o=>
     rw[q] at h
     have h:isTup o (λits=>F_ (LL K n) its ps)=true:=h
     refine E2_2 (Dg h) λits m eV h=>?_
     subst eV
     exact .tup (X _ _ q) (Ga (λv p=>ih) h)
   | _=>exact gy h
  | sv w=>cases of_decide_eq_true h;exact .sv
  | bool l b=>cases of_decide_eq_true h;exact .bool
  | _=>exact gy h
noncomputable def gB(K:Frag)(p:Str×PV):Bool:=aF (nsIn K mainGlobals p.1) (λr=>aF r (λv=>LL K 4 v p.2) (!bT p.1 "__name__"&&aF (bootBuiltins p.1) (λv=>LL K 4 v p.2) false)) false
noncomputable def g_(x:String)(p:PV):Str×PV:=(d_ x,p)
noncomputable def PG:Pg where
 glob:=[g_ "is_white" (.sv (.ref 61)),
 g_ "is_delimiter" (.sv (.ref 68)),
 g_ "is_line_end" (.sv (.ref 75)),
 g_ "digit_value" (.sv (.ref 96)),
 g_ "is_integer_size" (.sv (.ref 110)),
 g_ "whole_number" (.sv (.ref 131)),
 g_ "figures_value" (.sv (.ref 136)),
 g_ "figures_joined" (.sv (.ref 143)),
 g_ "split_at" (.sv (.ref 178)),
 g_ "read_real" (.sv (.ref 185)),
 g_ "read_number" (.sv (.ref 192)),
 g_ "integer" (.sv (.ref 284)),
 g_ "name" (.sv (.ref 299)),
 g_ "of_string" (.sv (.ref 314)),
 g_ "of_row" (.sv (.ref 322)),
 g_ "of_packed" (.sv (.ref 330)),
 g_ "is_in_array" (.sv (.ref 337)),
 g_ "body_of" (.sv (.ref 344)),
 g_ "is_local" (.sv (.ref 351)),
 g_ "octets_of_span" (.sv (.ref 358)),
 g_ "things_of_span" (.sv (.ref 365)),
 g_ "is_blank" (.sv (.ref 416)),
 g_ "scan_skip_feed" (.sv (.ref 423)),
 g_ "scan_line" (.sv (.ref 430)),
 g_ "scan_first" (.sv (.ref 437)),
 g_ "scan_word" (.sv (.ref 444)),
 g_ "scan_sure" (.sv (.ref 451)),
 g_ "scan_string" (.sv (.ref 472)),
 g_ "scan_name" (.sv (.ref 500)),
 g_ "scan_regular" (.sv (.ref 507)),
 g_ "scan_at_once" (.sv (.ref 514)),
 g_ "memory_check_many" (.sv (.ref 937)),
 g_ "_law_draw" (.sv (.ref 966)),
 g_ "_law_long" (.sv (.ref 973)),
 g_ "_law_tokens" (.sv (.ref 980)),
 g_ "_law_read" (.sv (.ref 987)),
 g_ "_law_due" (.sv (.ref 992)),
 g_ "_law_told" (.sv (.ref 997)),
 g_ "_law_world" (.sv (.ref 1004)),
 g_ "_law_one_by_one" (.sv (.ref 1009)),
 g_ "_law_at_once" (.sv (.ref 1014)),
 g_ "PsError" (.sv (.ref 52)),
 g_ "Thing" (.sv (.ref 210)),
 g_ "Text" (.sv (.ref 231)),
 g_ "Row" (.sv (.ref 252)),
 g_ "Span" (.sv (.ref 273)),
 g_ "OctetSource" (.sv (.ref 405)),
 g_ "Scanner" (.sv (.ref 604)),
 g_ "Limits" (.sv (.ref 626)),
 g_ "Memory" (.sv (.ref 928)),
 g_ "LEAST_INT" (.int true (-2147483648)),
 g_ "MOST_INT" (.int true (2147483647)),
 g_ "LINE_FEED" (.int true (10)),
 g_ "CARRIAGE_RETURN" (.int true (13)),
 g_ "FEW_FIGURES" (.int true (32)),
 g_ "UNLIMITED" (.int true (3)),
 g_ "READ_ONLY" (.int true (2)),
 g_ "SCAN_END" (.int true (4)),
 g_ "SCAN_FORM_FEED" (.int true (12)),
 g_ "SCAN_OPEN" (.int true (40)),
 g_ "SCAN_CLOSE" (.int true (41)),
 g_ "SCAN_SLASH" (.int true (47)),
 g_ "SCAN_LESS" (.int true (60)),
 g_ "SCAN_MORE" (.int true (62)),
 g_ "SCAN_BACKSLASH" (.int true (92)),
 g_ "SCAN_ROW_OPEN" (.int true (91)),
 g_ "SCAN_ROW_CLOSE" (.int true (93)),
 g_ "SCAN_PROC_OPEN" (.int true (123)),
 g_ "SCAN_PROC_CLOSE" (.int true (125)),
 g_ "SCAN_PERCENT" (.int true (37)),
 g_ "ITEM_COST" (.int true (8)),
 g_ "INTEGER" (.str "integer"),
 g_ "REAL" (.str "real"),
 g_ "WHITE" (.bytes true [0,9,10,12,13,32]),
 g_ "DELIMITERS" (.bytes true [40,41,60,62,91,93,123,125,47,37]),
 g_ "_law_things" (.tup [.tup [.bytes true [55],.tup [.str "integer",.int true 7,.bool true false,.int true 3]],.tup [.bytes true [97,98],.tup [.str "name",.bytes true [97,98],.bool true true,.int true 3]],.tup [.bytes true [47,120],.tup [.str "name",.bytes true [120],.bool true false,.int true 3]],.tup [.bytes true [40,97,125,123,41],.tup [.str "string",.bytes true [97,125,123],.bool true false,.int true 3]],.tup [.bytes true [91],.tup [.str "name",.bytes true [91],.bool true true,.int true 3]],.tup [.bytes true [93],.tup [.str "name",.bytes true [93],.bool true true,.int true 3]]]),
 g_ "_law_between" (.tup [.bytes true [32],.bytes true [10],.bytes true [13,10],.bytes true [32,37,125,123,10],.bytes true [9,0],.bytes true [32,37,123,13]]),
 g_ "_law_asked" (.tup [.bytes true [102,105,118,101],.bytes true [114,111,119],.bytes true [102,105,118,101],.bytes true [114,111,119],.bytes true [103,111,110,101],.bytes true [98,97,100]]),
 g_ "len" (.sv (.builtin "len")),
 g_ "bytes" (.sv (.type "bytes")),
 g_ "bytearray" (.sv (.type "bytearray")),
 g_ "range" (.sv (.type "range")),
 g_ "enumerate" (.sv (.type "enumerate")),
 g_ "zip" (.sv (.type "zip")),
 g_ "isinstance" (.sv (.builtin "isinstance")),
 g_ "int" (.sv (.type "int")),
 g_ "list" (.sv (.type "list")),
 g_ "max" (.sv (.builtin "max"))]
 cls:=[(210,⟨["kind","value","is_exec","access"],[],[]⟩),
 (231,⟨["number","octets","is_global","level"],[],[]⟩),
 (252,⟨["number","things","is_global","level"],[],[]⟩),
 (273,⟨["body","start","many"],[],[]⟩),
 (405,⟨["octets","at","is_told"],[("next",395),("back",402)],[]⟩),
 (604,⟨["memory"],[("string",535),("procedure",542),("word",549),("slashed",556),("plain",577),("token",585),("things",593)],[]⟩),
 (626,⟨["operands","dicts","frames","saves","gstates","text","row","entries","word","path","dash","files","system","vm"],[],[]⟩),
 (928,⟨["limits","is_global","saves","journal","made","freed","used","used_global","last_body","last_save"],[("body_level",680),("take_room",687),("check_room",694),("text_of_octets",708),("make_row",715)],[("level",672)]⟩)]
 needs:=[(61,[]),(68,[]),(75,[]),(96,[]),(110,[]),(131,[]),(136,[]),(143,[]),(178,[]),(185,[]),(192,[]),(284,[]),(299,[]),(314,[]),(322,[]),(330,[]),(337,[]),(344,[]),(351,[]),(358,[]),(365,[]),(416,[]),(500,[]),(507,[]),(937,[]),(987,[]),(992,[]),(210,[]),(231,[]),(252,[]),(273,[]),(405,[]),(626,[]),(395,[2]),(402,[2]),(423,[2]),(430,[2]),(437,[2]),(444,[2]),(451,[2]),(472,[2]),(514,[8,6,7]),(585,[5,2,3,12,8,6,7]),(593,[5,2,3,12,8,6,7]),(577,[5,2,3,12,8,6,7]),(556,[5,2,3,12,8,6,7]),(549,[5,3,12,2]),(535,[5,3,12]),(542,[5,3,12]),(672,[3,12]),(680,[3,12]),(687,[3,12]),(694,[3,12]),(708,[3,12]),(715,[3,12]),(604,[3,12]),(928,[]),(966,[1]),(973,[1]),(980,[1]),(997,[10]),(1004,[9]),(1009,[9]),(1014,[9])]
 FI:=[(8,[8,6,7])]
 nm:=[(744047,6),(756041,10),(769041,10)]
 Rp:=[67018,67094,417030,431029,436046,441021,487021,488023,490021,699024,715025,723021,727043,745026,700004,451008]
noncomputable def pK:Q5:=MineH.OP (((bodyOf (bg 112)).drop 4).headD (.Pass default)) (λnm ps b sc pos=>⟨nm,d_ "_law_world.<locals>.lookup",ps,b,sc,pos,999⟩) ⟨"","",⟨[],[],none,[],[],none,[]⟩,[],default,default,0⟩
noncomputable abbrev wU:eX:=gY (mA 9 0) "PostError.__init__" (.ref 29) 35 "postcore.base" 194
structure Cx(S:Sx):Prop where
 ok:S.Ok
 K:S.K=KK S.w.params
 fN:S.fN=pK
 bt:∀ h:b9,(∀ b o,S.h₀.get? b=some o→h.get? b=some o)→h.BuiltinsAt S.mg S.fN.tab
theorem Ci{α:Type}{l:List (Nat×α)}{x:Nat}{v:α}(h:AW l x=some v):(x,v) ∈ l:=by
 induction l with
 | nil=>exact bR h
 | cons p r ih=>
  have h:cond (aX p.1 x) (some p.2) (AW r x)=some v:=h
  cases q:aX p.1 x with
  | true=>rw[q] at h;cases h;cases bX q;exact .head _
  | false=>rw[q] at h;exact .tail _ (ih h)
section
variable{P:aV}
theorem Ks:(PG.glob.all (gB (KK P)))=true:=by kernel_rfl
theorem Mm:(PG.cls.all λp=>J' (KK P) p.1 p.2)=true:=by kernel_rfl
theorem K4:(PG.needs.all λp=>keepIn (KK P) (.ref p.1))=true:=by kernel_rfl
theorem Nc:((KK P).lookup sysModules).isSome=true:=by kernel_rfl
theorem PB:D5 (KK P):=⟨⟨(clsIn (KK P) 52).getD default,by kernel_rfl,by kernel_rfl⟩,by kernel_rfl,by kernel_rfl,by kernel_rfl,by kernel_rfl⟩
end
variable{S:Sx}
theorem Cx.pg(c:Cx S):ic S PG where
 mods:=by
  obtain⟨o,h⟩:=fB.mp (Nc (P:=S.w.params))
  exact⟨o,c.ok.X _ _ (by rw[c.K];exact h)⟩
 glob:=λx v h=>by
  have X:=c.ok.X
  rw[c.K] at X
  have h:=jH.mp (Ks (P:=S.w.params)) _ (oW h)
  unfold gB at h
  cases q:nsIn (KK S.w.params) mainGlobals x with
  | none=>rw[q] at h;exact gy h
  | some r=>
   rw[q] at h
   cases r with
   | some rv=>exact⟨rv,.inl (mg_of X c.ok.T.g q),Cs X 4 h⟩
   | none=>
    obtain⟨h1,h2⟩:=aj.mp (show(!bT x "__name__"&&aF (bootBuiltins x) (λw=>LL (KK S.w.params) 4 w v) false)=true from h)
    cases q2:bootBuiltins x with
    | none=>rw[q2] at h2;exact gy h2
    | some rv=>
     rw[q2] at h2
     exact⟨rv,.inr ⟨mg_none_of X c.ok.T.g q,(c.ok.T.builtins x (iE (by cases z:bT x "__name__" with | false=>rfl | true=>rw[z] at h1;exact gy h1))).trans q2⟩,Cs X 4 h2⟩
 cls:=λC d h=>by rw[c.K];exact Ml (jH.mp (Mm (P:=S.w.params)) _ (Ci h))
 needs:=λa ns h=>by rw[c.K];exact jH.mp (K4 (P:=S.w.params)) _ (Ci h)
 exc:=by rw[c.K];exact PB
theorem Cx.init(c:Cx S):Aj S wU (bodyOf (mA 9 0)):=⟨⟨_,_,_,_,rfl⟩,by kernel_rfl,λa b St=>by rw[c.K];kernel_rfl⟩
theorem Cx.exc(c:Cx S):BU S 36 wU (bodyOf (mA 9 0)):=by
 have f:=Kr c.ok (a:=36) (fd:=wU) (by rw[c.K];kernel_rfl) (by rw[c.K];kernel_rfl)
 have e:Ei wU.body=bodyOf (mA 9 0):=by kernel_rfl
 rw[e] at f
 refine⟨?_,?_,?_,?_,?_,?_,?_,f⟩
 ·rw[c.K];exact⟨none,(clsIn (KK S.w.params) 52).getD default,some (.ref 43),none,some (.str "PsError" 246),some (.str "PsError" 254),some (.bool true),by kernel_rfl,by kernel_rfl,by kernel_rfl,by kernel_rfl⟩
 all_goals (rw[c.K];kernel_rfl)
structure Fn(S:Sx)(a:au)(body:List dO)(sc:List (Str×aE))(np:Nat)(uC:List Str)(cS:List (Str×Src)):Prop where
 ex:∃ fd,D6 S a fd body∧Shape S fd np uC cS∧fd.scope.names=sc
theorem Cx.fn(c:Cx S){a:au}(fd:eX){body:List dO}{sc:List (Str×aE)}{np:Nat}{uC:List Str}{cS:List (Str×Src)}(h1:(((KK S.w.params).lookup a).map (·.data),Ei fd.body,fd.scope.names)=(some (.func fd),body,sc))(h2:(PL (KK S.w.params) fd&&BB fd.scope.names cS)=true)
  (h3:lS (KK S.w.params) fd np uC cS):Fn S a body sc np uC cS:=by
 refine A2 (qV h1) λe1 e2=>?_
 refine A2 (qV e2) λe2 e3=>?_
 refine A2 (aj.mp h2) λh4 h5=>?_
 rw[←c.K] at e1 h4 h3
 exact⟨fd,e2▸Kr c.ok e1 h4,zL h5 h3,e3⟩
structure En(S:Sx)(f:Fx)(sc:List (Str×aE)):Prop where
 ok:f.Ok
 nodup:(f.env.cells.map (·.2)).Nodup
 names:f.env.scope.names=sc
 own:∃ outer,f.fr=f.env::outer
 frame:f.env.frame=some f.env.locals
 hand:f.A.handled=none
theorem Gm(c:Cx S)(ns:List Nat){a:au}{body:List dO}{sc:List (Str×aE)}{np:Nat}{uC:List Str}{cS:List (Str×Src)}(H:Fn S a body sc np uC cS){k:Nat}{args:List MV}{kw:List (Str×MV)}(hnp:args.length=np)(hkw:kw.map (·.1)=uC){F:br}{Q:Res MV→br→Prop}
  (h:∀ A env fr,En S ⟨A,env,fr,k⟩ sc→let f:Fx:=⟨A,env,fr,k⟩;let K:=Dt F (vQ F ns Q);(oq S f PG sc 40).exs body ⟨Ea args kw cS,F,F.map (·.1),u6 sc cS⟩ K):ao S (k+1) (.pv (.sv (.ref a))) args kw F Q:=by
 refine E1_3 H.ex λfd HF sh hs=>?_
 refine ao.tidy ns (B4 (P:=PG) c.ok c.pg HF sh (jJ k) hnp hkw λf en n rel=>?_)
 obtain⟨A,env,fr,lv⟩:=f
 obtain rfl:lv=k:=en.lv
 have I_:En S ⟨A,env,fr,lv⟩ sc:=⟨en.ok,en.nodup,by rw[en.scope];exact hs,en.own,en.frame,en.hand⟩
 rw[hs] at rel
 exact(qD c.ok en.ok en.nodup c.pg I_.names 40).exs body n _ _ rel (h A env fr I_)
theorem bO(c:Cx S){a:au}{body:List dO}{sc:List (Str×aE)}{np:Nat}{uC:List Str}{cS:List (Str×Src)}(H:Fn S a body sc np uC cS){k:Nat}{args:List MV}{kw:List (Str×MV)}(hnp:args.length=np)(hkw:kw.map (·.1)=uC){F:br}{Q:Res MV→br→Prop}
  (h:∀ A env fr,En S ⟨A,env,fr,k⟩ sc→let f:Fx:=⟨A,env,fr,k⟩;let K:=Dt F (vQ F (F.map (·.1)) Q);(oq S f PG sc 40).exs body ⟨Ea args kw cS,F,F.map (·.1),u6 sc cS⟩ K):ao S (k+1) (.pv (.sv (.ref a))) args kw F Q:=Gm c (F.map (·.1)) H hnp hkw h
theorem cU{α:Type}{st:α→St}{I:α→Prop}{σ:St}{G:br}(b:α)(e:List (Str×MV))(h:σ=⟨(st b).locs++e,G,(st b).dom,(st b).un⟩)(h2:pull G ((st b).foot.map (·.1))=some (st b).foot)(i:I b):∃ b,Sub σ (st b)∧I b:=⟨b,⟨e,G,h,h2⟩,i⟩
theorem uo{β:Type}{st:Nat→β→Option PV→St}{I:Nat→β→Option PV→Prop}{σ:St}{G:br}(m:Nat)(b:β)(o:Option PV)(e:List (Str×MV))(h:σ=⟨(st m b o).locs++e,G,(st m b o).dom,(st m b o).un⟩)(h2:pull G ((st m b o).foot.map (·.1))=some (st m b o).foot)(i:I m b o):∃ m b o,Sub σ (st m b o)∧I m b o:=⟨m,b,o,⟨e,G,h,h2⟩,i⟩
theorem aR{b:Bool}{x:Prop}(h:b=true)(k:x):Bool.rec (motive:=λz_=>Prop) False x b:=by subst h;exact k
theorem iH{b:Bool}{x y:Prop}(h:b=true→x)(k:b=false→y):Bool.rec (motive:=λz_=>Prop) y x b:=by cases b with | true=>exact h rfl | false=>exact k rfl
theorem lq{b:Bool}{x y:Prop}(h:b=true)(k:x):Bool.rec (motive:=λz_=>Prop) y x b:=by subst h;exact k
theorem ff{b:Bool}{x y:Prop}(h:b=false)(k:y):Bool.rec (motive:=λz_=>Prop) y x b:=by subst h;exact k
section
variable{f:Fx}{sc:List (Str×aE)}{σ:St}
theorem En.ih(c:Cx S)(en:En S f sc)(k:Nat):dX S f (oq S f PG sc k):=qD c.ok en.ok en.nodup c.pg en.names k
theorem o6(c:Cx S){A:bC}{env:Env}{fr:List Env}{n:Nat}(en:En S ⟨A,env,fr,n+1⟩ sc){np cp cpos pos:Pos}{ck:Nat}{b:List UInt8}{Q:Res cj→St→Prop}(hsc:lk sc "PsError"=some .globalImplicit)(hq:Q (.exc b) σ):gE S ⟨A,env,fr,n+1⟩ (.Raise (some (.Call (.Name "PsError" np) [.Constant (.bytes b) ck cp] [] cpos)) none pos) σ Q:=
 Ge c.ok en.ok c.pg en.names c.init c.exc rfl (jJ n) hsc (by kernel_rfl) (by rw[c.K];kernel_rfl) hq
theorem GR(c:Cx S)(en:En S f sc){test:aJ}{body:List dO}{pos:Pos}{Q:Res cj→St→Prop}(k:Nat){α:Type}(st:α→St)(I:α→Prop)(μ:α→Nat){a:α}(h:I a)
  (turn:∀ a,I a→let K:=vU (λσ₂=>∃ b,Sub σ₂ (st b)∧I b∧μ b<μ a) Q;let T:=CJ (λσ₁=>(oq S f PG sc k).exs body σ₁ K) (λσ₁=>Q (.ok .next) σ₁) Q;(oq S f PG sc k).qg test (st a) T):gE S f (.While test body [] pos) (st a) Q:=by
 refine Ab (en.ih c k) en.ok en.frame en.own (λk σ=>∃ a,σ=st a∧I a∧μ a=k) (λk σ hi=>?_) ⟨a,rfl,h,rfl⟩
 refine E1_3 hi λa nV h rU=>?_
 subst nV rU
 have e:(λσ₂=>∃ m,m<μ a∧∃ σ₃,Sub σ₂ σ₃∧∃ b,σ₃=st b∧I b∧μ b=m)=λσ₂=>∃ b,Sub σ₂ (st b)∧I b∧μ b<μ a:=funext λσ₂=>propext ⟨λh=>E1_2 h λm h1 h=>E1_2 h λz_ h2 h=>E1_3 h λb h3 h4 h5=>⟨b,h3▸h2,h4,h5▸h1⟩,λh=>E1_3 h λb h2 h3 h4=>⟨_,h4,_,h2,b,rfl,h3,rfl⟩⟩
 rw[e]
 exact turn a h
theorem sC(c:Cx S)(en:En S f sc){test:aJ}{body:List dO}{pos:Pos}{Q:Res cj→St→Prop}(k:Nat){β:Type}(st:Nat→β→Option PV→St)(I:Nat→β→Option PV→Prop){n:Nat}{p:β}{o:Option PV}(h:I n p o)
  (turn:∀ n p,I n p none→let K:=vU (λσ₂=>∃ m q o,Sub σ₂ (st m q o)∧I m q o∧m<n) Q;let T:=CJ (λσ₁=>(oq S f PG sc k).exs body σ₁ K) (λσ₁=>Q (.ok .next) σ₁) Q;(oq S f PG sc k).qg test (st n p none) T)
  (last:∀ n p t,I n p (some t)→let K:=vU (λσ₂=>∃ m q o,Sub σ₂ (st m q o)∧I m q o∧m<n) Q;let T:=CJ (λσ₁=>(oq S f PG sc k).exs body σ₁ K) (λσ₁=>Q (.ok .next) σ₁) Q;(oq S f PG sc k).qg test (st n p (some t)) T):gE S f (.While test body [] pos) (st n p o) Q:=by
 refine Ab (en.ih c k) en.ok en.frame en.own (λm σ=>∃ p o,σ=st m p o∧I m p o) (λm σ hi=>?_) ⟨p,o,rfl,h⟩
 refine E2_2 hi λp o eV h=>?_
 subst eV
 have e:(λσ₂=>∃ j,j<m∧∃ σ₃,Sub σ₂ σ₃∧∃ q o,σ₃=st j q o∧I j q o)=λσ₂=>∃ j q o,Sub σ₂ (st j q o)∧I j q o∧j<m:=funext λσ₂=>propext ⟨λh=>E1_2 h λj h1 h=>E1_2 h λz_ h2 h=>E2_2 h λq o h3 h4=>⟨j,q,o,h3▸h2,h4,h1⟩,λh=>E3_3 h λj q o h2 h3 h4=>⟨j,h4,_,h2,q,o,rfl,h3⟩⟩
 rw[e]
 cases o with
 | some t=>exact last m p t h
 | none=>exact turn m p h
theorem Mv(c:Cx S)(en:En S f sc)(k:Nat){target iter:aJ}{body:List dO}{pos:Pos}{Q:Res cj→St→Prop}(h:xQ PG f.lv (oq S f PG sc k) target iter (forM (oq S f PG sc k) target body) σ Q):gE S f (.For target iter body [] pos) σ Q:=
 PM (en.ih c k) en.ok en.frame en.own h
end
section
theorem F61_1(c:Cx S):Fn S 61 (bodyOf (bg 11)) (aP (bg 11)) 1 [] [("octet",.arg 0)]:=
 c.fn (gY (bg 11) "is_white" .none 60 "postcore.base" 194) (by kernel_rfl) (by kernel_rfl) (bind1 λz_ z_=>by kernel_rfl)
theorem F68_1(c:Cx S):Fn S 68 (bodyOf (bg 12)) (aP (bg 12)) 1 [] [("octet",.arg 0)]:=
 c.fn (gY (bg 12) "is_delimiter" .none 67 "postcore.base" 194) (by kernel_rfl) (by kernel_rfl) (bind1 λz_ z_=>by kernel_rfl)
theorem F75_1(c:Cx S):Fn S 75 (bodyOf (bg 13)) (aP (bg 13)) 1 [] [("octet",.arg 0)]:=
 c.fn (gY (bg 13) "is_line_end" .none 74 "postcore.base" 194) (by kernel_rfl) (by kernel_rfl) (bind1 λz_ z_=>by kernel_rfl)
theorem F96_1(c:Cx S):Fn S 96 (bodyOf (bg 16)) (aP (bg 16)) 1 [] [("octet",.arg 0)]:=
 c.fn (gY (bg 16) "digit_value" .none 95 "postcore.base" 194) (by kernel_rfl) (by kernel_rfl) (bind1 λz_ z_=>by kernel_rfl)
theorem F110_1(c:Cx S):Fn S 110 (bodyOf (bg 25)) (aP (bg 25)) 1 [] [("number",.arg 0)]:=
 c.fn (gY (bg 25) "is_integer_size" .none 109 "postcore.numbers" 304) (by kernel_rfl) (by kernel_rfl) (bind1 λz_ z_=>by kernel_rfl)
theorem F131_1(c:Cx S):Fn S 131 (bodyOf (bg 28)) (aP (bg 28)) 1 [] [("number",.arg 0)]:=
 c.fn (gY (bg 28) "whole_number" .none 130 "postcore.numbers" 304) (by kernel_rfl) (by kernel_rfl) (bind1 λz_ z_=>by kernel_rfl)
theorem F136_2(c:Cx S):Fn S 136 (bodyOf (bg 29)) (aP (bg 29)) 2 [] [("octets",.arg 0),("base",.arg 1)]:=
 c.fn (gY (bg 29) "figures_value" .none 135 "postcore.numbers" 304) (by kernel_rfl) (by kernel_rfl) (g7 λz_ z_ z_=>by kernel_rfl)
theorem F143_2(c:Cx S):Fn S 143 (bodyOf (bg 30)) (aP (bg 30)) 2 [] [("figures",.arg 0),("base",.arg 1)]:=
 c.fn (gY (bg 30) "figures_joined" .none 142 "postcore.numbers" 304) (by kernel_rfl) (by kernel_rfl) (g7 λz_ z_ z_=>by kernel_rfl)
theorem F178_2(c:Cx S):Fn S 178 (bodyOf (bg 35)) (aP (bg 35)) 2 [] [("octets",.arg 0),("signs",.arg 1)]:=
 c.fn (gY (bg 35) "split_at" .none 177 "postcore.numbers" 304) (by kernel_rfl) (by kernel_rfl) (g7 λz_ z_ z_=>by kernel_rfl)
theorem F185_2(c:Cx S):Fn S 185 (bodyOf (bg 36)) (aP (bg 36)) 2 [] [("octets",.arg 0),("is_below",.arg 1)]:=
 c.fn (gY (bg 36) "read_real" .none 184 "postcore.numbers" 304) (by kernel_rfl) (by kernel_rfl) (g7 λz_ z_ z_=>by kernel_rfl)
theorem F192_1(c:Cx S):Fn S 192 (bodyOf (bg 37)) (aP (bg 37)) 1 [] [("octets",.arg 0)]:=
 c.fn (gY (bg 37) "read_number" .none 191 "postcore.numbers" 304) (by kernel_rfl) (by kernel_rfl) (bind1 λz_ z_=>by kernel_rfl)
theorem F207_3(c:Cx S):Fn S 207 (bodyOf (mA 41 0)) (aP (mA 41 0)) 3 [] [("self",.arg 0),("kind",.arg 1),("value",.arg 2),("is_exec",.q8 (.bool false) (.bool false false)),("access",.q8 (.int 3 457) (.int false 3))]:=
 c.fn (gY (mA 41 0) "Thing.__init__" (.ref 200) 206 "postcore.objects" 453) (by kernel_rfl) (by kernel_rfl) (sU λz_ z_ z_ z_=>by kernel_rfl)
theorem F207_4(c:Cx S):Fn S 207 (bodyOf (mA 41 0)) (aP (mA 41 0)) 4 [] [("self",.arg 0),("kind",.arg 1),("value",.arg 2),("is_exec",.arg 3),("access",.q8 (.int 3 457) (.int false 3))]:=
 c.fn (gY (mA 41 0) "Thing.__init__" (.ref 200) 206 "postcore.objects" 453) (by kernel_rfl) (by kernel_rfl) (yl λz_ z_ z_ z_ z_=>by kernel_rfl)
theorem F207_5(c:Cx S):Fn S 207 (bodyOf (mA 41 0)) (aP (mA 41 0)) 5 [] [("self",.arg 0),("kind",.arg 1),("value",.arg 2),("is_exec",.arg 3),("access",.arg 4)]:=
 c.fn (gY (mA 41 0) "Thing.__init__" (.ref 200) 206 "postcore.objects" 453) (by kernel_rfl) (by kernel_rfl) (ym λz_ z_ z_ z_ z_ z_=>by kernel_rfl)
theorem F228_5(c:Cx S):Fn S 228 (bodyOf (mA 42 0)) (aP (mA 42 0)) 5 [] [("self",.arg 0),("number",.arg 1),("octets",.arg 2),("is_global",.arg 3),("level",.arg 4)]:=
 c.fn (gY (mA 42 0) "Text.__init__" .none 227 "postcore.objects" 453) (by kernel_rfl) (by kernel_rfl) (ym λz_ z_ z_ z_ z_ z_=>by kernel_rfl)
theorem F249_5(c:Cx S):Fn S 249 (bodyOf (mA 43 0)) (aP (mA 43 0)) 5 [] [("self",.arg 0),("number",.arg 1),("things",.arg 2),("is_global",.arg 3),("level",.arg 4)]:=
 c.fn (gY (mA 43 0) "Row.__init__" .none 248 "postcore.objects" 453) (by kernel_rfl) (by kernel_rfl) (ym λz_ z_ z_ z_ z_ z_=>by kernel_rfl)
theorem F270_4(c:Cx S):Fn S 270 (bodyOf (mA 44 0)) (aP (mA 44 0)) 4 [] [("self",.arg 0),("body",.arg 1),("start",.arg 2),("many",.arg 3)]:=
 c.fn (gY (mA 44 0) "Span.__init__" .none 269 "postcore.objects" 453) (by kernel_rfl) (by kernel_rfl) (yl λz_ z_ z_ z_ z_=>by kernel_rfl)
theorem F284_1(c:Cx S):Fn S 284 (bodyOf (bg 45)) (aP (bg 45)) 1 [] [("number",.arg 0)]:=
 c.fn (gY (bg 45) "integer" .none 283 "postcore.objects" 453) (by kernel_rfl) (by kernel_rfl) (bind1 λz_ z_=>by kernel_rfl)
theorem F299_2(c:Cx S):Fn S 299 (bodyOf (bg 47)) (aP (bg 47)) 2 [] [("octets",.arg 0),("is_exec",.arg 1)]:=
 c.fn (gY (bg 47) "name" (.ref 292) 298 "postcore.objects" 453) (by kernel_rfl) (by kernel_rfl) (g7 λz_ z_ z_=>by kernel_rfl)
theorem F314_1(c:Cx S):Fn S 314 (bodyOf (bg 49)) (aP (bg 49)) 1 [] [("text",.arg 0),("is_exec",.q8 (.bool false) (.bool false false)),("access",.q8 (.int 3 457) (.int false 3))]:=
 c.fn (gY (bg 49) "of_string" (.ref 307) 313 "postcore.objects" 453) (by kernel_rfl) (by kernel_rfl) (bind1 λz_ z_=>by kernel_rfl)
theorem F322_1(c:Cx S):Fn S 322 (bodyOf (bg 50)) (aP (bg 50)) 1 [] [("row",.arg 0),("is_exec",.q8 (.bool false) (.bool false false)),("access",.q8 (.int 3 457) (.int false 3))]:=
 c.fn (gY (bg 50) "of_row" (.ref 315) 321 "postcore.objects" 453) (by kernel_rfl) (by kernel_rfl) (bind1 λz_ z_=>by kernel_rfl)
theorem F322_2(c:Cx S):Fn S 322 (bodyOf (bg 50)) (aP (bg 50)) 2 [] [("row",.arg 0),("is_exec",.arg 1),("access",.q8 (.int 3 457) (.int false 3))]:=
 c.fn (gY (bg 50) "of_row" (.ref 315) 321 "postcore.objects" 453) (by kernel_rfl) (by kernel_rfl) (g7 λz_ z_ z_=>by kernel_rfl)
theorem F330_2(c:Cx S):Fn S 330 (bodyOf (bg 51)) (aP (bg 51)) 2 [] [("row",.arg 0),("is_exec",.arg 1)]:=
 c.fn (gY (bg 51) "of_packed" (.ref 323) 329 "postcore.objects" 453) (by kernel_rfl) (by kernel_rfl) (g7 λz_ z_ z_=>by kernel_rfl)
theorem F337_1(c:Cx S):Fn S 337 (bodyOf (bg 52)) (aP (bg 52)) 1 [] [("thing",.arg 0)]:=
 c.fn (gY (bg 52) "is_in_array" .none 336 "postcore.objects" 453) (by kernel_rfl) (by kernel_rfl) (bind1 λz_ z_=>by kernel_rfl)
theorem F344_1(c:Cx S):Fn S 344 (bodyOf (bg 53)) (aP (bg 53)) 1 [] [("thing",.arg 0)]:=
 c.fn (gY (bg 53) "body_of" .none 343 "postcore.objects" 453) (by kernel_rfl) (by kernel_rfl) (bind1 λz_ z_=>by kernel_rfl)
theorem F351_1(c:Cx S):Fn S 351 (bodyOf (bg 54)) (aP (bg 54)) 1 [] [("thing",.arg 0)]:=
 c.fn (gY (bg 54) "is_local" .none 350 "postcore.objects" 453) (by kernel_rfl) (by kernel_rfl) (bind1 λz_ z_=>by kernel_rfl)
theorem F358_1(c:Cx S):Fn S 358 (bodyOf (bg 55)) (aP (bg 55)) 1 [] [("span",.arg 0)]:=
 c.fn (gY (bg 55) "octets_of_span" .none 357 "postcore.objects" 453) (by kernel_rfl) (by kernel_rfl) (bind1 λz_ z_=>by kernel_rfl)
theorem F365_1(c:Cx S):Fn S 365 (bodyOf (bg 56)) (aP (bg 56)) 1 [] [("span",.arg 0)]:=
 c.fn (gY (bg 56) "things_of_span" .none 364 "postcore.objects" 453) (by kernel_rfl) (by kernel_rfl) (bind1 λz_ z_=>by kernel_rfl)
theorem F380_2(c:Cx S):Fn S 380 (bodyOf (mA 75 0)) (aP (mA 75 0)) 2 [] [("self",.arg 0),("octets",.arg 1),("at",.q8 (.int 0 735) (.int false 0))]:=
 c.fn (gY (mA 75 0) "OctetSource.__init__" (.ref 373) 379 "postcore.scanner" 687) (by kernel_rfl) (by kernel_rfl) (g7 λz_ z_ z_=>by kernel_rfl)
theorem F395_1(c:Cx S):Fn S 395 (bodyOf (mA 75 2)) (aP (mA 75 2)) 1 [] [("self",.arg 0)]:=
 c.fn (gY (mA 75 2) "OctetSource.next" .none 394 "postcore.scanner" 687) (by kernel_rfl) (by kernel_rfl) (bind1 λz_ z_=>by kernel_rfl)
theorem F402_1(c:Cx S):Fn S 402 (bodyOf (mA 75 3)) (aP (mA 75 3)) 1 [] [("self",.arg 0)]:=
 c.fn (gY (mA 75 3) "OctetSource.back" .none 401 "postcore.scanner" 687) (by kernel_rfl) (by kernel_rfl) (bind1 λz_ z_=>by kernel_rfl)
theorem F416_1(c:Cx S):Fn S 416 (bodyOf (bg 76)) (aP (bg 76)) 1 [] [("octet",.arg 0)]:=
 c.fn (gY (bg 76) "is_blank" .none 415 "postcore.scanner" 687) (by kernel_rfl) (by kernel_rfl) (bind1 λz_ z_=>by kernel_rfl)
theorem F423_1(c:Cx S):Fn S 423 (bodyOf (bg 77)) (aP (bg 77)) 1 [] [("source",.arg 0)]:=
 c.fn (gY (bg 77) "scan_skip_feed" .none 422 "postcore.scanner" 687) (by kernel_rfl) (by kernel_rfl) (bind1 λz_ z_=>by kernel_rfl)
theorem F430_1(c:Cx S):Fn S 430 (bodyOf (bg 78)) (aP (bg 78)) 1 [] [("source",.arg 0)]:=
 c.fn (gY (bg 78) "scan_line" .none 429 "postcore.scanner" 687) (by kernel_rfl) (by kernel_rfl) (bind1 λz_ z_=>by kernel_rfl)
theorem F437_1(c:Cx S):Fn S 437 (bodyOf (bg 79)) (aP (bg 79)) 1 [] [("source",.arg 0)]:=
 c.fn (gY (bg 79) "scan_first" .none 436 "postcore.scanner" 687) (by kernel_rfl) (by kernel_rfl) (bind1 λz_ z_=>by kernel_rfl)
theorem F444_2(c:Cx S):Fn S 444 (bodyOf (bg 80)) (aP (bg 80)) 2 [] [("source",.arg 0),("most",.arg 1)]:=
 c.fn (gY (bg 80) "scan_word" .none 443 "postcore.scanner" 687) (by kernel_rfl) (by kernel_rfl) (g7 λz_ z_ z_=>by kernel_rfl)
theorem F451_1(c:Cx S):Fn S 451 (bodyOf (bg 81)) (aP (bg 81)) 1 [] [("source",.arg 0)]:=
 c.fn (gY (bg 81) "scan_sure" .none 450 "postcore.scanner" 687) (by kernel_rfl) (by kernel_rfl) (bind1 λz_ z_=>by kernel_rfl)
theorem F472_1(c:Cx S):Fn S 472 (bodyOf (bg 84)) (aP (bg 84)) 1 [] [("source",.arg 0)]:=
 c.fn (gY (bg 84) "scan_string" .none 471 "postcore.scanner" 687) (by kernel_rfl) (by kernel_rfl) (bind1 λz_ z_=>by kernel_rfl)
theorem F500_3(c:Cx S):Fn S 500 (bodyOf (bg 88)) (aP (bg 88)) 3 [] [("word",.arg 0),("is_exec",.arg 1),("most",.arg 2)]:=
 c.fn (gY (bg 88) "scan_name" .none 499 "postcore.scanner" 687) (by kernel_rfl) (by kernel_rfl) (sU λz_ z_ z_ z_=>by kernel_rfl)
theorem F507_2(c:Cx S):Fn S 507 (bodyOf (bg 89)) (aP (bg 89)) 2 [] [("word",.arg 0),("most",.arg 1)]:=
 c.fn (gY (bg 89) "scan_regular" .none 506 "postcore.scanner" 687) (by kernel_rfl) (by kernel_rfl) (g7 λz_ z_ z_=>by kernel_rfl)
theorem F514_3(c:Cx S):Fn S 514 (bodyOf (bg 90)) (aP (bg 90)) 3 [] [("word",.arg 0),("lookup",.arg 1),("most",.arg 2)]:=
 c.fn (gY (bg 90) "scan_at_once" .none 513 "postcore.scanner" 687) (by kernel_rfl) (by kernel_rfl) (sU λz_ z_ z_ z_=>by kernel_rfl)
theorem F528_2(c:Cx S):Fn S 528 (bodyOf (mA 91 0)) (aP (mA 91 0)) 2 [] [("self",.arg 0),("memory",.arg 1)]:=
 c.fn (gY (mA 91 0) "Scanner.__init__" .none 527 "postcore.scanner" 687) (by kernel_rfl) (by kernel_rfl) (g7 λz_ z_ z_=>by kernel_rfl)
theorem F535_2(c:Cx S):Fn S 535 (bodyOf (mA 91 1)) (aP (mA 91 1)) 2 [] [("self",.arg 0),("octets",.arg 1)]:=
 c.fn (gY (mA 91 1) "Scanner.string" .none 534 "postcore.scanner" 687) (by kernel_rfl) (by kernel_rfl) (g7 λz_ z_ z_=>by kernel_rfl)
theorem F542_3(c:Cx S):Fn S 542 (bodyOf (mA 91 2)) (aP (mA 91 2)) 3 [] [("self",.arg 0),("things",.arg 1),("is_packing",.arg 2)]:=
 c.fn (gY (mA 91 2) "Scanner.procedure" .none 541 "postcore.scanner" 687) (by kernel_rfl) (by kernel_rfl) (sU λz_ z_ z_ z_=>by kernel_rfl)
theorem F549_2(c:Cx S):Fn S 549 (bodyOf (mA 91 3)) (aP (mA 91 3)) 2 [] [("self",.arg 0),("source",.arg 1)]:=
 c.fn (gY (mA 91 3) "Scanner.word" .none 548 "postcore.scanner" 687) (by kernel_rfl) (by kernel_rfl) (g7 λz_ z_ z_=>by kernel_rfl)
theorem F556_3(c:Cx S):Fn S 556 (bodyOf (mA 91 4)) (aP (mA 91 4)) 3 [] [("self",.arg 0),("source",.arg 1),("lookup",.arg 2)]:=
 c.fn (gY (mA 91 4) "Scanner.slashed" .none 555 "postcore.scanner" 687) (by kernel_rfl) (by kernel_rfl) (sU λz_ z_ z_ z_=>by kernel_rfl)
theorem F577_4(c:Cx S):Fn S 577 (bodyOf (mA 91 7)) (aP (mA 91 7)) 4 [] [("self",.arg 0),("source",.arg 1),("octet",.arg 2),("lookup",.arg 3)]:=
 c.fn (gY (mA 91 7) "Scanner.plain" .none 576 "postcore.scanner" 687) (by kernel_rfl) (by kernel_rfl) (yl λz_ z_ z_ z_ z_=>by kernel_rfl)
theorem F585_4(c:Cx S):Fn S 585 (bodyOf (mA 91 8)) (aP (mA 91 8)) 4 [] [("self",.arg 0),("source",.arg 1),("is_packing",.arg 2),("lookup",.arg 3)]:=
 c.fn (gY (mA 91 8) "Scanner.token" (.ref 578) 584 "postcore.scanner" 687) (by kernel_rfl) (by kernel_rfl) (yl λz_ z_ z_ z_ z_=>by kernel_rfl)
theorem F593_4(c:Cx S):Fn S 593 (bodyOf (mA 91 9)) (aP (mA 91 9)) 4 [] [("self",.arg 0),("source",.arg 1),("is_packing",.arg 2),("lookup",.arg 3)]:=
 c.fn (gY (mA 91 9) "Scanner.things" (.ref 586) 592 "postcore.scanner" 687) (by kernel_rfl) (by kernel_rfl) (yl λz_ z_ z_ z_ z_=>by kernel_rfl)
theorem F623_1(c:Cx S):Fn S 623 (bodyOf (mA 95 0)) (aP (mA 95 0)) 1 ["row"] [("self",.arg 0),("operands",.q8 (.int 500 1063) (.int false 500)),("dicts",.q8 (.int 20 1064) (.int false 20)),("frames",.q8 (.int 250 1065) (.int false 250)),("saves",.q8 (.int 15 1066) (.int false 15)),("gstates",.q8 (.int 31 1067) (.int false 31)),("text",.q8 (.int 65535 1068) (.int false 65535)),("row",.kw 0),("entries",.q8 (.int 65535 1070) (.int false 65535)),("word",.q8 (.int 127 1071) (.int false 127)),("path",.q8 (.int 1500 1072) (.int false 1500)),("dash",.q8 (.int 11 1073) (.int false 11)),("files",.q8 (.int 15 1074) (.int false 15)),("system",.q8 (.int 600 1075) (.int false 600)),("vm",.q8 (.int 16777216 1049) (.int false 16777216))]:=
 c.fn (gY (mA 95 0) "Limits.__init__" (.ref 616) 622 "postcore.memory" 1043) (by kernel_rfl) (by kernel_rfl) (J7 λz_ z_ z_=>by kernel_rfl)
theorem F665_2(c:Cx S):Fn S 665 (bodyOf (mA 97 0)) (aP (mA 97 0)) 2 [] [("self",.arg 0),("limits",.arg 1)]:=
 c.fn (gY (mA 97 0) "BodyMaker.__init__" .none 664 "postcore.memory" 1043) (by kernel_rfl) (by kernel_rfl) (g7 λz_ z_ z_=>by kernel_rfl)
theorem F672_1(c:Cx S):Fn S 672 (bodyOf (mA 97 1)) (aP (mA 97 1)) 1 [] [("self",.arg 0)]:=
 c.fn (gY (mA 97 1) "BodyMaker.level" .none 671 "postcore.memory" 1043) (by kernel_rfl) (by kernel_rfl) (bind1 λz_ z_=>by kernel_rfl)
theorem F680_1(c:Cx S):Fn S 680 (bodyOf (mA 97 2)) (aP (mA 97 2)) 1 [] [("self",.arg 0)]:=
 c.fn (gY (mA 97 2) "BodyMaker.body_level" .none 679 "postcore.memory" 1043) (by kernel_rfl) (by kernel_rfl) (bind1 λz_ z_=>by kernel_rfl)
theorem F687_2(c:Cx S):Fn S 687 (bodyOf (mA 97 3)) (aP (mA 97 3)) 2 [] [("self",.arg 0),("cost",.arg 1)]:=
 c.fn (gY (mA 97 3) "BodyMaker.take_room" .none 686 "postcore.memory" 1043) (by kernel_rfl) (by kernel_rfl) (g7 λz_ z_ z_=>by kernel_rfl)
theorem F694_2(c:Cx S):Fn S 694 (bodyOf (mA 97 4)) (aP (mA 97 4)) 2 [] [("self",.arg 0),("cost",.arg 1)]:=
 c.fn (gY (mA 97 4) "BodyMaker.check_room" .none 693 "postcore.memory" 1043) (by kernel_rfl) (by kernel_rfl) (g7 λz_ z_ z_=>by kernel_rfl)
theorem F708_2(c:Cx S):Fn S 708 (bodyOf (mA 97 6)) (aP (mA 97 6)) 2 [] [("self",.arg 0),("octets",.arg 1)]:=
 c.fn (gY (mA 97 6) "BodyMaker.text_of_octets" .none 707 "postcore.memory" 1043) (by kernel_rfl) (by kernel_rfl) (g7 λz_ z_ z_=>by kernel_rfl)
theorem F715_2(c:Cx S):Fn S 715 (bodyOf (mA 97 7)) (aP (mA 97 7)) 2 [] [("self",.arg 0),("things",.arg 1)]:=
 c.fn (gY (mA 97 7) "BodyMaker.make_row" .none 714 "postcore.memory" 1043) (by kernel_rfl) (by kernel_rfl) (g7 λz_ z_ z_=>by kernel_rfl)
theorem F937_2(c:Cx S):Fn S 937 (bodyOf (bg 100)) (aP (bg 100)) 2 [] [("many",.arg 0),("most",.arg 1)]:=
 c.fn (gY (bg 100) "memory_check_many" .none 936 "postcore.memory" 1043) (by kernel_rfl) (by kernel_rfl) (g7 λz_ z_ z_=>by kernel_rfl)
theorem F966_2(c:Cx S):Fn S 966 (bodyOf (bg 106)) (aP (bg 106)) 2 [] [("deck",.arg 0),("below",.arg 1)]:=
 c.fn (gY (bg 106) "_law_draw" .none 965 "law_pq0918_01" 1540) (by kernel_rfl) (by kernel_rfl) (g7 λz_ z_ z_=>by kernel_rfl)
theorem F973_1(c:Cx S):Fn S 973 (bodyOf (bg 107)) (aP (bg 107)) 1 [] [("deck",.arg 0)]:=
 c.fn (gY (bg 107) "_law_long" .none 972 "law_pq0918_01" 1540) (by kernel_rfl) (by kernel_rfl) (bind1 λz_ z_=>by kernel_rfl)
theorem F980_1(c:Cx S):Fn S 980 (bodyOf (bg 108)) (aP (bg 108)) 1 [] [("deck",.arg 0)]:=
 c.fn (gY (bg 108) "_law_tokens" .none 979 "law_pq0918_01" 1540) (by kernel_rfl) (by kernel_rfl) (bind1 λz_ z_=>by kernel_rfl)
theorem F987_3(c:Cx S):Fn S 987 (bodyOf (bg 109)) (aP (bg 109)) 3 [] [("tokens",.arg 0),("most",.arg 1),("is_global",.arg 2)]:=
 c.fn (gY (bg 109) "_law_read" .none 986 "law_pq0918_01" 1540) (by kernel_rfl) (by kernel_rfl) (sU λz_ z_ z_ z_=>by kernel_rfl)
theorem F992_2(c:Cx S):Fn S 992 (bodyOf (bg 110)) (aP (bg 110)) 2 [] [("due",.arg 0),("is_packing",.arg 1)]:=
 c.fn (gY (bg 110) "_law_due" .none 991 "law_pq0918_01" 1540) (by kernel_rfl) (by kernel_rfl) (g7 λz_ z_ z_=>by kernel_rfl)
theorem F997_3(c:Cx S):Fn S 997 (bodyOf (bg 111)) (aP (bg 111)) 3 [] [("thing",.arg 0),("row",.arg 1),("bodies",.arg 2)]:=
 c.fn (gY (bg 111) "_law_told" .none 996 "law_pq0918_01" 1540) (by kernel_rfl) (by kernel_rfl) (sU λz_ z_ z_ z_=>by kernel_rfl)
theorem F1009_5(c:Cx S):Fn S 1009 (bodyOf (bg 113)) (aP (bg 113)) 5 [] [("octets",.arg 0),("due",.arg 1),("flags",.arg 2),("most",.arg 3),("is_global",.arg 4)]:=
 c.fn (gY (bg 113) "_law_one_by_one" .none 1008 "law_pq0918_01" 1540) (by kernel_rfl) (by kernel_rfl) (ym λz_ z_ z_ z_ z_ z_=>by kernel_rfl)
theorem F1014_5(c:Cx S):Fn S 1014 (bodyOf (bg 114)) (aP (bg 114)) 5 [] [("octets",.arg 0),("due",.arg 1),("is_packing",.arg 2),("most",.arg 3),("is_global",.arg 4)]:=
 c.fn (gY (bg 114) "_law_at_once" .none 1013 "law_pq0918_01" 1540) (by kernel_rfl) (by kernel_rfl) (ym λz_ z_ z_ z_ z_ z_=>by kernel_rfl)
theorem F1019_1(c:Cx S):Fn S 1019 (bodyOf (bg 115)) (aP (bg 115)) 1 [] [("script",.arg 0)]:=
 c.fn (gY (bg 115) "law" .none 1018 "law_pq0918_01" 1540) (by kernel_rfl) (by kernel_rfl) (bind1 λz_ z_=>by kernel_rfl)
end
end
section
open MineH (KK bg mA)
section
variable{S:Sx}{l:Nat}{F:br}{Q:Res MV→br→Prop}
noncomputable abbrev iV(x:Int):MV:=.pv (.int false x)
noncomputable abbrev bV(b:Bool):MV:=.pv (.bool false b)
noncomputable abbrev bP(b:Bool):PV:=.bool false b
noncomputable abbrev fV(a:au):MV:=.pv (.sv (.ref a))
noncomputable abbrev rQ(bs:List UInt8)(p:Int)(t:PV):eg:=.inst 405 [("octets",.pv (.bytes false bs)),("at",iV p),("is_told",.pv t)]
noncomputable abbrev sF(bs:List UInt8)(p:Nat)(t:PV):br:=[(2,rQ bs p t)]
noncomputable abbrev u8(x:UInt8):MV:=iV (x.toNat:Int)
theorem fj{bs:List UInt8}{p:Nat}{x:UInt8}{r:List UInt8}(h:bs.drop p=x::r):p<bs.length∧bs.getD p 0=x∧bs.drop (p+1)=r:=by
 have hp:p<bs.length:=by
  rcases fq p bs.length with q | q
  ·exact q
  ·rw[ez q] at h;cases h
 rw[gK hp] at h
 injection h with h1 h2
 refine⟨hp,?_,h2⟩
 rw[gu,cX hp,h1];rfl
theorem CN(x:UInt8):(x.toNat:Int)<256:=by have:=x.toNat_lt;exact fT.mpr this
theorem z9(x:UInt8):fX (x.toNat:Int).toNat=x:=by simp
theorem Dh(c:Cx S){x:UInt8}(hq:Q (.ok (bV ([0,9,10,12,13,32].contains x))) []):ao S (l+1) (fV 61) [u8 x] [] [] Q:=by
 refine bO c (F61_1 c) rfl rfl λA env fr en=>aR (by simp[CN]) ?_
 show Q (.ok (bV ([0,9,10,12,13,32].contains (fX (x.toNat:Int).toNat)))) []
 rw[z9];exact hq
theorem ou(c:Cx S){x:UInt8}{b:Bool}(hb:[40,41,60,62,91,93,123,125,47,37].contains x=b)(hq:Q (.ok (bV b)) []):ao S (l+1) (fV 68) [u8 x] [] [] Q:=by
 refine bO c (F68_1 c) rfl rfl λA env fr en=>aR (by simp[CN]) ?_
 show Q (.ok (bV ([40,41,60,62,91,93,123,125,47,37].contains (fX (x.toNat:Int).toNat)))) []
 rw[z9,hb];exact hq
theorem ao.flag{fv:MV}{args:List MV}{kw:List (Str×MV)}(h:ao S l fv args kw F λr F'=>match r with
  | .ok (.pv (.bool _ b))=>Q (.ok (bV b)) F'
  | .ok (.pv (.int _ b))=>Q (.ok (iV b)) F'
  | .ok _=>False
  | .exc t=>Q (.exc t) F'):ao S l fv args kw F Q:=
 h.conv (λz_ z_ h=>h) (λm F' hq=>by
  cases m with
  | pv p=>cases p with
   | bool _ b=>exact⟨_,hq,λX v hv=>by cases vBool hv;exact .pv .bool⟩
   | int _ b=>exact⟨_,hq,λX v hv=>by obtain⟨t,rfl⟩:=vInt hv;exact .pv .int⟩
   | _=>exact hq.elim
  | _=>exact hq.elim) λt F' hq=>hq
noncomputable def Qj(x:UInt8):Bool:=[0,9,10,12,13,32].contains x
noncomputable def uT(x:UInt8):Bool:=Qj x||decide ((x.toNat:Int)=4)
noncomputable def KG(x:UInt8):Bool:=decide ((x.toNat:Int)=10)||decide ((x.toNat:Int)=13)
theorem wX(c:Cx S){x:UInt8}{b:Bool}(hb:KG x=b)(hq:Q (.ok (bV b)) []):ao S (l+1) (fV 75) [u8 x] [] [] Q:=by
 subst hb
 unfold KG at hq
 refine ao.flag (bO c (F75_1 c) rfl rfl λA env fr en=>?_)
 refine iH (λh=>?_) (λh=>?_)
 ·rw[h] at hq;exact hq
 ·rw[h] at hq;exact hq
theorem vE(c:Cx S){x:UInt8}{b:Bool}(hb:uT x=b)(hq:Q (.ok (bV b)) []):ao S (l+3) (fV 416) [u8 x] [] [] Q:=by
 subst hb
 unfold uT at hq
 refine ao.flag (bO c (F416_1 c) rfl rfl λA env fr en=>?_)
 refine Dh c (iH (λh=>?_) (λh=>?_))
 ·rw[show Qj x=true from h] at hq;exact hq
 ·rw[show Qj x=false from h] at hq;exact hq
theorem Ll{bs:List UInt8}{v v':MV}{p p':Int}{t t':PV}(h:Q (.ok v') [(2,rQ bs p' t')])(e1:v=v')(e2:p=p')(e3:t=t'):Q (.ok v) [(2,rQ bs p t)]:=by subst e1 e2 e3;exact h
theorem FJ(c:Cx S){bs:List UInt8}{p:Nat}{t:PV}(hz:bs.length≤aB){x:UInt8}{r:List UInt8}(hr:bs.drop p=x::r)(hq:Q (.ok (u8 x)) (sF bs (p+1) (bP true))):ao S (l+1) (fV 395) [.loc 2] [] (sF bs p t) Q:=by
 refine A3 (fj hr) λhp hx z_=>?_
 have tB:(p:Int)<bs.length:=fT.mpr hp
 have e:((p:Int)+1-1).toNat=p:=by exact congrArg o9 (Int.add_sub_cancel (p:Int) 1)
 refine bO c (F395_1 c) rfl rfl λA env fr en=>aR (bx hz) (lq (decide_eq_true tB) (aR ?_ ?_))
 ·show(decide (0≤(p:Int)+1-1)&&d9 ((p:Int)+1-1).toNat bs.length&&aO bs.length aB)=true
  rw[e,decide_eq_true (bF (cu p) (lC (Int.add_sub_cancel (p:Int) 1).symm)),bx hz,show d9 p bs.length=true from bx hp];rfl
 ·refine Ll (v:=.pv (.int false (jG (bs.getD ((p:Int)+1-1).toNat 0).toNat))) (p:=(p:Int)+1) hq ?_ (rfl) (congrArg bP (decide_eq_true tB))
  rw[e,hx];rfl
theorem FL(c:Cx S){bs:List UInt8}{p:Nat}{t:PV}(hz:bs.length≤aB)(hr:bs.drop p=[])(hq:Q (.ok (.pv .none)) (sF bs p (bP false))):ao S (l+1) (fV 395) [.loc 2] [] (sF bs p t) Q:=by
 have hp:¬(p:Int)<bs.length:=by have:=List.drop_eq_nil_iff.mp hr;exact λq=>gb this (fT.mp q)
 refine bO c (F395_1 c) rfl rfl λA env fr en=>aR (bx hz) (ff (decide_eq_false hp) ?_)
 exact Ll (p:=(p:Int)) hq rfl rfl (congrArg bP (decide_eq_false hp))
theorem ve(c:Cx S){bs:List UInt8}{p:Nat}(hq:Q (.ok (.pv .none)) (sF bs p (.bool true false))):ao S (l+1) (fV 402) [.loc 2] [] (sF bs (p+1) (bP true)) Q:=by
 refine bO c (F402_1 c) rfl rfl λA env fr en=>?_
 exact Ll (p:=((p+1:Nat):Int)-1) hq rfl (Int.add_sub_cancel (p:Int) 1) rfl
noncomputable def zN(r:List UInt8):List UInt8:=match r with
 | []=>[]
 | x::r=>if x=10 then r else x::r
theorem rz{x y:UInt8}:((x.toNat:Int)=(y.toNat:Int)) ↔ x=y:=⟨λh=>UInt8.toNat_inj.mp (Int.ofNat.inj h),λh=>h▸rfl⟩
theorem t_(c:Cx S){bs:List UInt8}{p:Nat}{t:PV}(hz:bs.length≤aB){r:List UInt8}(hr:bs.drop p=r)(hq:∀ p' t',bs.drop p'=zN r→Q (.ok (.pv .none)) (sF bs p' t')):ao S (l+3) (fV 423) [.loc 2] [] (sF bs p t) Q:=by
 refine bO c (F423_1 c) rfl rfl λA env fr en=>?_
 cases r with
 | nil=>
  refine FL c hz hr ?_
  exact hq p _ hr
 | cons x r=>
  refine FJ c hz hr ?_
  refine iH (λh=>?_) λh=>?_
  ·refine ve c ?_
   refine hq p _ (hr.trans (if_neg λe=>?_).symm)
   subst e;exact absurd h (by decide)
  ·refine hq (p+1) _ ((fj hr).2.2.trans (if_pos ?_).symm)
   exact rz.mp (of_decide_eq_true (by simpa using h))
noncomputable def yH(x:UInt8)(r:List UInt8):List UInt8:=if x=13 then zN r else r
noncomputable def kU(r:List UInt8):Option (List UInt8):=bA (motive:=λz_=>Option (List UInt8)) none (λx r q=>cond (KG x) (some (yH x r)) (cond (decide ((x.toNat:Int)=12)) none q)) r
theorem lz(c:Cx S){bs:List UInt8}{p:Nat}{t:PV}(hz:bs.length≤aB)(hp:p<bs.length)(hq:Q (.ok (u8 (bs.getD p 0))) (sF bs (p+1) (bP true))):ao S (l+1) (fV 395) [.loc 2] [] (sF bs p t) Q:=
 FJ c hz (r:=bs.drop (p+1)) (by rw[gK hp,gu,cX hp];rfl) hq
theorem qy{bs:List UInt8}{p:Nat}(hp:p<bs.length):bs.drop p=bs.getD p 0::bs.drop (p+1):=by rw[gK hp,gu,cX hp];rfl
theorem mR{bs R:List UInt8}{p:Nat}(h:kU (bs.drop p)=some R):p<bs.length:=by
 rcases fq p bs.length with q | q
 ·exact q
 ·rw[ez q] at h;exact bR h
theorem Cf{bs R:List UInt8}{p:Nat}(h:kU (bs.drop p)=some R)(e:KG (bs.getD p 0)=true):yH (bs.getD p 0) (bs.drop (p+1))=R:=by
 rw[qy (mR h)] at h
 have h:cond (KG (bs.getD p 0)) _ _=_:=h
 rw[e] at h;exact aK h
theorem w6{bs R:List UInt8}{p:Nat}(h:kU (bs.drop p)=some R)(e:KG (bs.getD p 0)=false):decide (((bs.getD p 0).toNat:Int)=12)=false∧kU (bs.drop (p+1))=some R:=by
 rw[qy (mR h)] at h
 have h:cond (KG (bs.getD p 0)) _ (cond (decide (((bs.getD p 0).toNat:Int)=12)) none (kU (bs.drop (p+1))))=_:=h
 rw[e] at h
 cases q:decide (((bs.getD p 0).toNat:Int)=12) with
 | true=>rw[q] at h;exact bR h
 | false=>rw[q] at h;exact⟨rfl,h⟩
theorem Br(c:Cx S){bs:List UInt8}{p:Nat}{t:PV}(hz:bs.length≤aB){R:List UInt8}(hr:kU (bs.drop p)=some R)(hq:∀ p' t',bs.drop p'=R→Q (.ok (.pv .none)) (sF bs p' t')):ao S (l+5) (fV 430) [.loc 2] [] (sF bs p t) Q:=by
 refine bO c (F430_1 c) rfl rfl λA env fr en=>lz c hz (mR hr) ?_
 refine GR c en 30 (λp=>⟨[("source",.loc 2),("octet",u8 (bs.getD p 0))],sF bs (p+1) (bP true),[2],[]⟩) (λp=>kU (bs.drop p)=some R) (λp=>bs.length-p) hr λp hr=>?_
 refine wX c rfl (iH (λe=>iH (λe2=>?_) λe2=>?_) λe=>lq (congrArg (!·) (w6 hr e).1) (lz c hz (mR (w6 hr e).2) ?_))
 ·exact t_ c hz rfl λp' t' hp=>hq p' t' (hp.trans ((if_pos (rz.mp (of_decide_eq_true e2))).symm.trans (Cf hr e)))
 ·exact hq (p+1) _ ((if_neg λq=>of_decide_eq_false e2 (rz.mpr q)).symm.trans (Cf hr e))
 ·exact cU (p+1) [] rfl rfl ⟨(w6 hr e).2,Nat.sub_lt_sub_left (mR hr) (f9 _)⟩
end
end
section
open MineH (KK bg mA)
section
variable{S:Sx}{l:Nat}{F:br}{Q:Res MV→br→Prop}
theorem K5(c:Cx S){bs:List UInt8}{p:Nat}{t:PV}(hz:bs.length≤aB)(h1:p<bs.length→Q (.ok (u8 (bs.getD p 0))) (sF bs (p+1) (bP true)))(h2:bs.length≤p→Q (.ok (.pv .none)) (sF bs p (bP false))):ao S (l+1) (fV 395) [.loc 2] [] (sF bs p t) Q:=
 (fq p bs.length).elim (λh=>lz c hz h (h1 h)) (λh=>FL c hz (ez h) (h2 h))
noncomputable def cM(n:Nat):List UInt8→Option (List UInt8):=Nat.rec (motive:=λz_=>List UInt8→Option (List UInt8)) (λz_=>none) (λz_ q r=>fk (motive:=λz_=>Option (List UInt8)) r (some []) λx r=>
 cond (decide ((x.toNat:Int)=37)) (aF (kU r) (λr'=>q r') none) (cond (uT x) (q r) (some (x::r)))) n
section
variable{bs R:List UInt8}{p n:Nat}
theorem ua(h:cM n (bs.drop p)=some R)(hp:p<bs.length):0<n∧cond (decide (((bs.getD p 0).toNat:Int)=37)) (aF (kU (bs.drop (p+1))) (λr'=>cM (n-1) r') none) (cond (uT (bs.getD p 0)) (cM (n-1) (bs.drop (p+1))) (some (bs.getD p 0::bs.drop (p+1))))=some R:=by
 cases n with
 | zero=>exact bR h
 | succ n=>rw[qy hp] at h;exact⟨jJ n,h⟩
theorem Gu(h:cM n (bs.drop p)=some R)(hp:p<bs.length)(e:decide (((bs.getD p 0).toNat:Int)=37)=true):kU (bs.drop (p+1))=some ((kU (bs.drop (p+1))).getD [])∧cM (n-1) ((kU (bs.drop (p+1))).getD [])=some R:=by
 have h:=(ua h hp).2
 rw[e] at h
 have h:aF (kU (bs.drop (p+1))) (λr'=>cM (n-1) r') none=some R:=h
 cases q:kU (bs.drop (p+1)) with
 | none=>rw[q] at h;exact bR h
 | some r=>rw[q] at h;exact⟨rfl,h⟩
theorem Lh(h:cM n (bs.drop p)=some R)(hp:p<bs.length)(e:decide (((bs.getD p 0).toNat:Int)=37)=false)(e2:uT (bs.getD p 0)=true):cM (n-1) (bs.drop (p+1))=some R:=by
 have h:=(ua h hp).2
 rw[e,e2] at h;exact h
theorem Li(h:cM n (bs.drop p)=some R)(hp:p<bs.length)(e:decide (((bs.getD p 0).toNat:Int)=37)=false)(e2:uT (bs.getD p 0)=false):bs.drop p=R:=by
 have h:=(ua h hp).2
 rw[e,e2] at h;rw[qy hp];exact aK h
theorem Lj(h:cM n (bs.drop p)=some R)(hp:bs.length≤p):R=[]:=by
 rw[ez hp] at h
 cases n with
 | zero=>exact bR h
 | succ n=>exact(aK h).symm
end
noncomputable abbrev Ia(bs:List UInt8)(p:Nat)(o:Option PV):MV:=gX (motive:=λz_=>MV) (u8 (bs.getD p 0)) (λz_=>.pv .none) o
noncomputable abbrev H9(p:Nat)(o:Option PV):Nat:=gX (motive:=λz_=>Nat) (p+1) (λz_=>p) o
noncomputable abbrev H_(o:Option PV):PV:=gX (motive:=λz_=>PV) (bP true) (λt=>t) o
noncomputable abbrev NB(bs:List UInt8)(p:Nat)(o:Option PV):Prop:=gX (motive:=λz_=>Prop) (p<bs.length) (λz_=>bs.length≤p) o
theorem Be(c:Cx S){bs:List UInt8}{p:Nat}{t:PV}(hz:bs.length≤aB)(hq:∀ o,NB bs p o→Q (.ok (Ia bs p o)) (sF bs (H9 p o) (H_ o))):ao S (l+1) (fV 395) [.loc 2] [] (sF bs p t) Q:=
 K5 c hz (λh=>hq none h) (λh=>hq (some (bP false)) h)
theorem zI(c:Cx S){bs R:List UInt8}{p n:Nat}{t:PV}(hz:bs.length≤aB)(hr:cM n (bs.drop p)=some R)(hq:∀ p,p<bs.length→bs.drop p=R→Q (.ok (u8 (bs.getD p 0))) (sF bs (p+1) (bP true)))(hn:R=[]→∀ p t,bs.length≤p→Q (.ok (.pv .none)) (sF bs p t)):
  ao S (l+7) (fV 437) [.loc 2] [] (sF bs p t) Q:=by
 refine bO c (F437_1 c) rfl rfl λA env fr en=>Be c hz λo ho=>?_
 refine sC c en 35 (λz_ p o=>⟨[("source",.loc 2),("octet",Ia bs p o)],sF bs (H9 p o) (H_ o),[2],[]⟩) (λn p o=>cM n (bs.drop p)=some R∧NB bs p o) (n:=n) (p:=p) (o:=o) ⟨hr,ho⟩ (λn p h=>?_) λn p t h=>hn (Lj h.1 h.2) p t h.2
 refine iH (λe=>?_) λe=>vE c rfl (iH (λe2=>?_) λe2=>?_)
 ·exact Br c hz (Gu h.1 h.2 e).1 λp' t' hp=>Be c hz λo ho=>uo (n-1) p' o [] rfl rfl ⟨⟨by rw[hp];exact(Gu h.1 h.2 e).2,ho⟩,Nat.sub_lt (ua h.1 h.2).1 Nat.one_pos⟩
 ·exact Be c hz λo ho=>uo (n-1) (p+1) o [] rfl rfl ⟨⟨Lh h.1 h.2 e e2,ho⟩,Nat.sub_lt (ua h.1 h.2).1 Nat.one_pos⟩
 ·exact hq p h.2 (Li h.1 h.2 e e2)
noncomputable def HC(x:UInt8):Bool:=[40,41,60,62,91,93,123,125,47,37].contains x
noncomputable def d8(acc r:List UInt8):Option (List UInt8×List UInt8):=bA (motive:=λz_=>List UInt8→Option (List UInt8×List UInt8)) (λz_=>none) (λx r q acc=>cond (HC x) none (cond (uT x) (some (acc,yH x r)) (q (acc++[x])))) r acc
section
variable{bs R W acc:List UInt8}{p:Nat}
theorem sD(h:d8 acc (bs.drop p)=some (W,R)):p<bs.length:=by
 rcases fq p bs.length with q | q
 ·exact q
 ·rw[ez q] at h;exact bR h
theorem x8(h:d8 acc (bs.drop p)=some (W,R)):HC (bs.getD p 0)=false∧cond (uT (bs.getD p 0)) (some (acc,yH (bs.getD p 0) (bs.drop (p+1)))) (d8 (acc++[bs.getD p 0]) (bs.drop (p+1)))=some (W,R):=by
 have hp:=sD h
 rw[qy hp] at h
 have h:cond (HC (bs.getD p 0)) none (cond (uT (bs.getD p 0)) (some (acc,yH (bs.getD p 0) (bs.drop (p+1)))) (d8 (acc++[bs.getD p 0]) (bs.drop (p+1))))=some (W,R):=h
 cases q:HC (bs.getD p 0) with
 | true=>rw[q] at h;exact bR h
 | false=>rw[q] at h;exact⟨rfl,h⟩
theorem BL(h:d8 acc (bs.drop p)=some (W,R))(e:uT (bs.getD p 0)=true):acc=W∧yH (bs.getD p 0) (bs.drop (p+1))=R:=by
 have h:=(x8 h).2
 rw[e] at h;exact qV (aK h)
theorem BK(h:d8 acc (bs.drop p)=some (W,R))(e:uT (bs.getD p 0)=false):d8 (acc++[bs.getD p 0]) (bs.drop (p+1))=some (W,R):=by
 have h:=(x8 h).2
 rw[e] at h;exact h
theorem qi{r:List UInt8}:∀ {acc:List UInt8},d8 acc r=some (W,R)→acc.length≤W.length:=by
 induction r with
 | nil=>intro acc h;exact bR h
 | cons x r ih=>
  intro acc h
  have h:cond (HC x) none (cond (uT x) (some (acc,yH x r)) (d8 (acc++[x]) r))=some (W,R):=h
  cases q:HC x with
  | true=>rw[q] at h;exact bR h
  | false=>
   rw[q] at h
   cases q2:uT x with
   | true=>rw[q2] at h;rw[(qV (aK h)).1];exact bf _
   | false=>
    rw[q2] at h
    have:=ih (show d8 (acc++[x]) r=some (W,R) from h)
    rw[aS] at this
    exact aa (aT _ _) this
theorem DV(h:d8 acc (bs.drop p)=some (W,R))(e:uT (bs.getD p 0)=false)(hw:W.length≤65535):decide ((65535:Int)≤acc.length)=false:=by
 have:=qi (BK h e)
 rw[aS,l9] at this
 exact decide_eq_false λq=>by exact Nat.not_succ_le_self _ (aa this (aa hw (iN.mp q)))
end
theorem cA{n:Nat}(h:n≤65535):aO n aB=true:=bx (aa h (cB rfl))
theorem Nz{x:UInt8}{n:Nat}(h:n≤65535):(decide (0≤(x.toNat:Int))&&decide ((x.toNat:Int)<256)&&aO n aB)=true:=by rw[cA h,decide_eq_true (CN x),decide_eq_true (cu _)];rfl
theorem Bt(c:Cx S){bs R W:List UInt8}{p:Nat}{t:PV}(hz:bs.length≤aB)(hr:d8 [] (bs.drop p)=some (W,R))(hw:W.length≤65535)(hq:∀ p' t',bs.drop p'=R→Q (.ok (.pv (.bytes false W))) (sF bs p' t')):
  ao S (l+5) (fV 444) [.loc 2,iV 65535] [] (sF bs p t) Q:=by
 refine bO c (F444_2 c) rfl rfl λA env fr en=>?_
 intro f_ K_
 refine lz c hz (sD hr) ?_
 refine GR c en 35 (λa=>⟨[("source",.loc 2),("most",iV 65535),("found",.loc 40),("octet",u8 (bs.getD a.1 0))],[(2,rQ bs (a.1+1:Nat) (bP true)),(40,.ba a.2)],[40,2],[]⟩) (λa=>d8 a.2 (bs.drop a.1)=some (W,R)) (λa=>bs.length-a.1) (a:=(p,[])) hr λa hr=>?_
 intro L_ T_
 refine vE c rfl (iH (λe=>?_) λe=>ou c (x8 hr).1 (aR (cA (aa (qi hr) hw)) (ff (DV hr e hw) (aR ?_ (lz c hz (sD (BK hr e)) ?_)))))
 ·have hq':∀ p' t',bs.drop p'=R→Q (.ok (.pv (.bytes false a.2))) (sF bs p' t'):=by rw[(BL hr e).1];exact hq
  have sz:=cA (aa (qi hr) hw)
  refine ou c (x8 hr).1 (iH (λe2=>?_) λe2=>?_)
  ·exact t_ c hz rfl λp' t' hp=>aR sz (hq' p' t' (hp.trans ((if_pos (rz.mp (of_decide_eq_true e2))).symm.trans (BL hr e).2)))
  ·exact aR sz (hq' (a.1+1) _ ((if_neg λq=>of_decide_eq_false e2 (rz.mpr q)).symm.trans (BL hr e).2))
 ·exact Nz (aa (qi hr) hw)
 ·exact cU (a.1+1,a.2++[bs.getD a.1 0]) [] (congrArg (λy=>(⟨[("source",.loc 2),("most",iV 65535),("found",.loc 40),("octet",u8 (bs.getD (a.1+1) 0))],[(2,rQ bs (a.1+1+1:Nat) (bP true)),(40,.ba (a.2++[y]))],[40,2],[]⟩:St)) (z9 _)) rfl ⟨BK hr e,Nat.sub_lt_sub_left (sD hr) (f9 _)⟩
end
end
section
open MineH (KK bg mA)
section
variable{S:Sx}{l:Nat}{F:br}{Q:Res MV→br→Prop}
theorem gE.sub{f:Fx}{s:dO}{σ σ':St}{Q:Res cj→St→Prop}(h:gE S f s σ' Q)(hs:Sub σ σ'):gE S f s σ Q:=⟨λn rel=>h.run n (rel.sub hs)⟩
noncomputable def JT(sc:List (Str×aE))(ts vs:List aJ):Bool:=(ts.length == 2||ts.length == 3)&&(vs.length == ts.length&&(!(vs.any isStarred)&&((rowNames sc ts).length == ts.length&&((rowNames sc ts).eraseDups.length == (rowNames sc ts).length&&(!(vs.all (foldedForSure 8))&& !(vs.all (constantsAlone 8)))))))
theorem zY(c:Cx S){f:Fx}{sc:List (Str×aE)}(en:En S f sc)(k:Nat){ts vs:List aJ}{a a':Nat}{tp vp pos:Pos}{σ:St}{Q:Res cj→St→Prop}(hb:JT sc ts vs=true)
  (h:((oq S f PG sc k).ev (.Tuple vs a' vp)) σ (pH (λv=>sA sc f.lv (rowNames sc ts) v) Q)):gE S f (.Assign [.Tuple ts a tp] (.Tuple vs a' vp) pos) σ Q:=by
 unfold JT at hb
 simp only[jE,gO] at hb
 refine A7 hb λh1 h2 h3 h4 h5 h6 h7=>?_
 exact GC (en.ih c k) en.ok en.names (xV en.ok en.names h1 h2 h3 rfl h4 h5 h6 h7) h
theorem se(c:Cx S){f:Fx}{sc:List (Str×aE)}(en:En S f sc)(k:Nat){ts vs:List aJ}{a a':Nat}{tp vp pos:Pos}{σ:St}{Q:Res cj→St→Prop}(hb:((rowNames sc ts).length == ts.length)=false)
  (h:((oq S f PG sc k).ev (.Tuple vs a' vp)) σ (pH (λv=>((oq S f PG sc k).asg (.Tuple ts a tp) v).andThen λz_=>M.ret .next) Q)):gE S f (.Assign [.Tuple ts a tp] (.Tuple vs a' vp) pos) σ Q:=
 Dq (en.ih c k) en.ok (xU en.names hb) h
theorem Bs(c:Cx S){bs:List UInt8}{p:Nat}{t:PV}(hz:bs.length≤aB)(hp:p<bs.length)(hq:Q (.ok (u8 (bs.getD p 0))) (sF bs (p+1) (bP true))):ao S (l+3) (fV 451) [.loc 2] [] (sF bs p t) Q:=by
 refine bO c (F451_1 c) rfl rfl λA env fr en=>lz c hz hp hq
noncomputable def qf(acc r:List UInt8):Option (List UInt8×List UInt8):=bA (motive:=λz_=>List UInt8→Option (List UInt8×List UInt8)) (λz_=>none) (λx r q acc=>cond (decide ((x.toNat:Int)=92)||(decide ((x.toNat:Int)=13)||decide ((x.toNat:Int)=40))) none (cond (decide ((x.toNat:Int)=41)) (some (acc,r)) (q (acc++[x])))) r acc
section
variable{bs R W acc:List UInt8}{p:Nat}
theorem xT(h:qf acc (bs.drop p)=some (W,R)):p<bs.length:=by
 rcases fq p bs.length with q | q
 ·exact q
 ·rw[ez q] at h;exact bR h
theorem zX(h:qf acc (bs.drop p)=some (W,R)):(decide (((bs.getD p 0).toNat:Int)=92)=false∧decide (((bs.getD p 0).toNat:Int)=13)=false∧decide (((bs.getD p 0).toNat:Int)=40)=false)∧cond (decide (((bs.getD p 0).toNat:Int)=41)) (some (acc,bs.drop (p+1))) (qf (acc++[bs.getD p 0]) (bs.drop (p+1)))=some (W,R):=by
 have hp:=xT h
 rw[qy hp] at h
 have h:cond (decide (((bs.getD p 0).toNat:Int)=92)||(decide (((bs.getD p 0).toNat:Int)=13)||decide (((bs.getD p 0).toNat:Int)=40))) none (cond (decide (((bs.getD p 0).toNat:Int)=41)) (some (acc,bs.drop (p+1))) (qf (acc++[bs.getD p 0]) (bs.drop (p+1))))=some (W,R):=h
 cases q:(decide (((bs.getD p 0).toNat:Int)=92)||(decide (((bs.getD p 0).toNat:Int)=13)||decide (((bs.getD p 0).toNat:Int)=40))) with
 | true=>rw[q] at h;exact bR h
 | false=>
  rw[q] at h
  refine A2 (dW.mp q) λq1 q=>?_
  refine A2 (dW.mp q) λq2 q3=>?_
  exact⟨⟨q1,q2,q3⟩,h⟩
theorem JP(h:qf acc (bs.drop p)=some (W,R))(e:decide (((bs.getD p 0).toNat:Int)=41)=true):acc=W∧bs.drop (p+1)=R:=by
 have h:=(zX h).2
 rw[e] at h;exact qV (aK h)
theorem NZ(h:qf acc (bs.drop p)=some (W,R))(e:decide (((bs.getD p 0).toNat:Int)=41)=false):qf (acc++[bs.getD p 0]) (bs.drop (p+1))=some (W,R):=by
 have h:=(zX h).2
 rw[e] at h;exact h
theorem str_len{r:List UInt8}:∀ {acc:List UInt8},qf acc r=some (W,R)→acc.length≤W.length:=by
 induction r with
 | nil=>intro acc h;exact bR h
 | cons x r ih=>
  intro acc h
  have h:cond (decide ((x.toNat:Int)=92)||(decide ((x.toNat:Int)=13)||decide ((x.toNat:Int)=40))) none (cond (decide ((x.toNat:Int)=41)) (some (acc,r)) (qf (acc++[x]) r))=some (W,R):=h
  cases q:(decide ((x.toNat:Int)=92)||(decide ((x.toNat:Int)=13)||decide ((x.toNat:Int)=40))) with
  | true=>rw[q] at h;exact bR h
  | false=>
   rw[q] at h
   cases q2:decide ((x.toNat:Int)=41) with
   | true=>rw[q2] at h;rw[(qV (aK h)).1];exact bf _
   | false=>
    rw[q2] at h
    have:=ih (show qf (acc++[x]) r=some (W,R) from h)
    rw[aS] at this
    exact aa (aT _ _) this
end
theorem xJ(c:Cx S){bs R W:List UInt8}{p:Nat}{t:PV}(hz:bs.length≤aB)(hr:qf [] (bs.drop p)=some (W,R))(hw:W.length≤65535)(hq:∀ p' t',bs.drop p'=R→Q (.ok (.pv (.bytes false W))) (sF bs p' t')):
  ao S (l+5) (fV 472) [.loc 2] [] (sF bs p t) Q:=by
 refine bO c (F472_1 c) rfl rfl λA env fr en=>?_
 refine zY c en 35 (by kernel_rfl) ?_
 refine gE.sub (σ':=⟨[("source",.loc 2),("depth",.pv (.int true 1)),("found",.loc 40)],[(2,rQ bs p t),(40,.ba [])],[40,2],[]⟩) ?_ ⟨[],_,rfl,rfl⟩
 refine sC c en 35 (λ_ (a:Nat×PV×List UInt8) o=>⟨[("source",.loc 2),("depth",.pv (.int true (gX (motive:=λz_=>Int) 1 (λz_=>0) o))),("found",.loc 40)],[(2,rQ bs a.1 a.2.1),(40,.ba a.2.2)],[40,2],[]⟩)
  (λn a o=>gX (motive:=λz_=>Prop) (qf a.2.2 (bs.drop a.1)=some (W,R)∧n=bs.length-a.1) (λz_=>a.2.2=W∧bs.drop a.1=R∧n=0) o) (n:=_) (p:=(p,t,[])) (o:=none) ⟨hr,rfl⟩ (λn a h=>?_) (λn a o h=>?_)
 ·refine Bs c hz (xT h.1) (ff (zX h.1).1.1 (ff (zX h.1).1.2.1 (ff (zX h.1).1.2.2 (iH (λe=>?_) λe=>aR ?_ ?_))))
  ·exact uo 0 (a.1+1,bP true,a.2.2) (some .none) [("octet",u8 (bs.getD a.1 0))] rfl rfl ⟨⟨(JP h.1 e).1,(JP h.1 e).2,rfl⟩,by rw[h.2];exact Nat.sub_pos_of_lt (xT h.1)⟩
  ·exact Nz (aa (str_len h.1) hw)
  ·exact uo (bs.length-(a.1+1)) (a.1+1,bP true,a.2.2++[bs.getD a.1 0]) none [("octet",u8 (bs.getD a.1 0))] (congrArg (λy=>(⟨[("source",.loc 2),("depth",.pv (.int true 1)),("found",.loc 40),("octet",u8 (bs.getD a.1 0))],[(2,rQ bs (a.1+1:Nat) (bP true)),(40,.ba (a.2.2++[y]))],[40,2],[]⟩:St)) (z9 _)) rfl ⟨⟨NZ h.1 e,rfl⟩,by rw[h.2];exact Nat.sub_lt_sub_left (xT h.1) (f9 _)⟩
 ·have hq':∀ p' t',bs.drop p'=R→Q (.ok (.pv (.bytes false a.2.2))) (sF bs p' t'):=by rw[h.1];exact hq
  exact aR (by rw[h.1];exact cA hw) (hq' a.1 _ h.2.1)
end
end
section
open MineH (KK bg mA)
section
variable{S:Sx}{l:Nat}{F:br}{Q:Res MV→br→Prop}
structure Mk(S:Sx)(C fI:au):Prop where
 m:makesIn S.K C=true
 i:findIn S.K (.ref C) "__init__"=some (some (.ref fI))
 t:typeIn S.K (.ref fI)=some (.type "function")
theorem JZ(c:Cx S):Mk S 210 207:=by constructor <;> (rw[c.K];kernel_rfl)
theorem OX(c:Cx S):Mk S 231 228:=by constructor <;> (rw[c.K];kernel_rfl)
theorem OY(c:Cx S):Mk S 252 249:=by constructor <;> (rw[c.K];kernel_rfl)
theorem OZ(c:Cx S):Mk S 273 270:=by constructor <;> (rw[c.K];kernel_rfl)
theorem O0(c:Cx S):Mk S 405 380:=by constructor <;> (rw[c.K];kernel_rfl)
theorem O1(c:Cx S):Mk S 604 528:=by constructor <;> (rw[c.K];kernel_rfl)
theorem O2(c:Cx S):Mk S 626 623:=by constructor <;> (rw[c.K];kernel_rfl)
theorem O3(c:Cx S):Mk S 928 665:=by constructor <;> (rw[c.K];kernel_rfl)
theorem uN(c:Cx S){C fI:au}(m:Mk S C fI)(k:Nat){args:List MV}{kw:List (Str×MV)}(hk:bL k (F.map (·.1))=false)(h:ao S (l+1) (fV fI) (.loc k::args) kw ((k,.inst C [])::F) (E6 k Q)):ao S (l+2) (fV C) args kw F Q:=
 call_cls c.ok m.m m.i m.t (jJ _) hk h
noncomputable abbrev eH(k v e a:PV):PV:=.obj none 210 [("kind",k),("value",v),("is_exec",e),("access",a)]
noncomputable abbrev yb(b s m:PV):PV:=.obj none 273 [("body",b),("start",s),("many",m)]
noncomputable abbrev IT(n:PV)(b:List UInt8)(g v:PV):PV:=.obj none 231 [("number",n),("octets",.ba b),("is_global",g),("level",v)]
noncomputable abbrev ya(t:Option au)(n:PV)(vs:List PV)(g v:PV):PV:=.obj t 252 [("number",n),("things",.list vs),("is_global",g),("level",v)]
variable{k v e a b s m n g:PV}
theorem IF(c:Cx S)(hq:Q (.ok (.pv (eH k v (.bool false false) (.int false 3)))) []):ao S (l+2) (fV 210) [.pv k,.pv v] [] [] Q:=
 ao.l_ (uN c (JZ c) 30 rfl (bO c (F207_3 c) rfl rfl λA env fr en=>λz_=>hq))
theorem IG(c:Cx S)(hq:Q (.ok (.pv (eH k v e (.int false 3)))) []):ao S (l+2) (fV 210) [.pv k,.pv v,.pv e] [] [] Q:=
 ao.l_ (uN c (JZ c) 30 rfl (bO c (F207_4 c) rfl rfl λA env fr en=>λz_=>hq))
theorem sy(c:Cx S)(hq:Q (.ok (.pv (eH k v e a))) []):ao S (l+2) (fV 210) [.pv k,.pv v,.pv e,.pv a] [] [] Q:=
 ao.l_ (uN c (JZ c) 30 rfl (bO c (F207_5 c) rfl rfl λA env fr en=>λz_=>hq))
theorem CD(c:Cx S)(hq:Q (.ok (.pv (yb b s m))) []):ao S (l+2) (fV 273) [.pv b,.pv s,.pv m] [] [] Q:=
 ao.l_ (uN c (OZ c) 30 rfl (bO c (F270_4 c) rfl rfl λA env fr en=>λz_=>hq))
theorem Od(c:Cx S){bs:List UInt8}{fl:Bool}(hz:bs.length≤65535)(hq:Q (.ok (.pv (IT n bs g v))) []):ao S (l+2) (fV 231) [.pv n,.pv (.bytes fl bs),.pv g,.pv v] [] [] Q:=
 ao.l_ (uN c (OX c) 30 rfl (bO c (F228_5 c) rfl rfl λA env fr en=>aR (cA hz) λz_=>hq))
theorem JL(c:Cx S){vs:List PV}(hz:vs.length≤65535)(hq:∀ t,Q (.ok (.pv (ya (some t) n vs g v))) []):ao S (l+2) (fV 252) [.pv n,.pv (.list vs),.pv g,.pv v] [] [] Q:=
 ao.freeze (uN c (OY c) 30 rfl (bO c (F249_5 c) rfl rfl λA env fr en=>aR (cA hz) hq))
theorem pS(c:Cx S)(hq:Q (.ok (.pv (eH (.str "integer") n (.bool false false) (.int false 3)))) []):ao S (l+4) (fV 284) [.pv n] [] [] Q:=
 bO c (F284_1 c) rfl rfl λA env fr en=>IF c hq
theorem Fz(c:Cx S)(hq:Q (.ok (.pv (eH (.str "name") n e (.int false 3)))) []):ao S (l+4) (fV 299) [.pv n,.pv e] [] [] Q:=
 bO c (F299_2 c) rfl rfl λA env fr en=>IG c hq
theorem Bg(c:Cx S){bs:List UInt8}(hz:bs.length≤65535)(hq:Q (.ok (.pv (eH (.str "string") (yb (IT n bs g v) (.int true 0) (.int false bs.length)) (.bool false false) (.int false 3)))) []):ao S (l+4) (fV 314) [.pv (IT n bs g v)] [] [] Q:=
 bO c (F314_1 c) rfl rfl λA env fr en=>aR (cA hz) (CD c (sy c hq))
theorem F0(c:Cx S){t:Option au}{vs:List PV}(hz:vs.length≤65535)(hq:Q (.ok (.pv (eH (.str "array") (yb (ya t n vs g v) (.int true 0) (.int false vs.length)) (.bool false false) (.int false 3)))) []):ao S (l+4) (fV 322) [.pv (ya t n vs g v)] [] [] Q:=
 bO c (F322_1 c) rfl rfl λA env fr en=>aR (cA hz) (CD c (sy c hq))
theorem F1(c:Cx S){t:Option au}{vs:List PV}(hz:vs.length≤65535)(hq:Q (.ok (.pv (eH (.str "array") (yb (ya t n vs g v) (.int true 0) (.int false vs.length)) e (.int false 3)))) []):ao S (l+4) (fV 322) [.pv (ya t n vs g v),.pv e] [] [] Q:=
 bO c (F322_2 c) rfl rfl λA env fr en=>aR (cA hz) (CD c (sy c hq))
theorem Bf(c:Cx S){t:Option au}{vs:List PV}(hz:vs.length≤65535)(hq:Q (.ok (.pv (eH (.str "packed") (yb (ya t n vs g v) (.int true 0) (.int false vs.length)) e (.int true 2)))) []):ao S (l+4) (fV 330) [.pv (ya t n vs g v),.pv e] [] [] Q:=
 bO c (F330_2 c) rfl rfl λA env fr en=>aR (cA hz) (CD c (sy c hq))
end
end
section
open MineH (KK bg mA)
section
variable{S:Sx}{l:Nat}{F:br}{Q:Res MV→br→Prop}
noncomputable def Bu(scope:nY):Bool:=scope.kind == .function&&tT (scope.names.map (·.1))
theorem zJ{scope:nY}(h:Bu scope=true):v7 scope:=by
 refine A2 (aj.mp h) λh1 h2=>?_
 exact⟨eq_of_beq h1,oZ h2⟩
section
variable{A:bC}{env:Env}{fr:List Env}{n:Nat}{sc:List (Str×aE)}{target elt iter:aJ}{ifs:List aJ}{scope:nY}{pos apos xp:Pos}{σ:St}
theorem yx(c:Cx S)(en:En S ⟨A,env,fr,n⟩ sc)(k j:Nat){Q:Res MV→St→Prop}(so:Bu scope=true)(h0:(gx sc σ.locs scope.names).isSome=true)
  (h:xQ PG n (oq S ⟨A,env,fr,n⟩ PG sc k) target iter (vh S ⟨A,env,fr,n⟩ PG sc j target elt ifs scope) σ Q):sH S ⟨A,env,fr,n⟩ (.ListComp elt [⟨target,iter,ifs,0⟩] scope pos) σ Q:=
 Hf c.ok (en.ih c k) en.ok en.nodup c.pg en.names (zJ so) h0 h
theorem qt(c:Cx S)(en:En S ⟨A,env,fr,n⟩ sc)(k j:Nat){x:Str}{Q:Res cj→St→Prop}(so:Bu scope=true)(hsw:BG sc x xp scope pos=true)(h0:(gx sc σ.locs scope.names).isSome=true)
  (h:xQ PG n (oq S ⟨A,env,fr,n⟩ PG sc k) target iter (λxs=>(vh S ⟨A,env,fr,n⟩ PG sc j target elt ifs scope xs).andThen λv=>((oq S ⟨A,env,fr,n⟩ PG sc k).asg (.Name x xp) v).andThen λz_=>M.ret .next) σ Q):
  gE S ⟨A,env,fr,n⟩ (.Assign [.Name x xp] (.ListComp elt [⟨target,iter,ifs,0⟩] scope pos) apos) σ Q:=
 sP c.ok (en.ih c k) en.ok en.nodup c.pg en.names (zJ so) hsw h0 h
theorem qx{xs:List PV}{j:Nat}{Q:Res MV→St→Prop}{α:Type}{fl:List (Str×MV)}(st:α→St)(I:Nat→List PV→α→Prop){a:α}(hz:xs.length≤65535)(hfl:gx sc σ.locs scope.names=some fl)(e0:(⟨fl,σ.foot,σ.dom,[]⟩:St)=st a)(i0:I 0 [] a)
  (turn:∀ A' env' uA i ys a x,xs[i]? =some x→I i ys a→(oq S ⟨A',env',uA,n⟩ PG (i7 sc scope.names) j).asg target (.pv x) (st a) (Co λz_ oE=>xW (oq S ⟨A',env',uA,n⟩ PG (i7 sc scope.names) j) ifs oE (Co λb kG=>match b with
   | true=>(oq S ⟨A',env',uA,n⟩ PG (i7 sc scope.names) j).ev elt kG (Co λy jS=>∃ p,y= .pv p∧∃ b,Sub jS (st b)∧I (i+1) (ys++[p]) b)
   | false=>∃ b,Sub kG (st b)∧I (i+1) ys b)))
  (fin:∀ ys a,I xs.length ys a→Q (.ok (.pv (.list ys))) ⟨σ.locs,(st a).foot,(st a).dom,σ.un⟩):vh S ⟨A,env,fr,n⟩ PG sc j target elt ifs scope xs σ Q:=by
 refine⟨cA hz,fl,hfl,λf' Hz=>?_⟩
 obtain⟨A',env',uA,lv⟩:=f'
 obtain rfl:lv=n:=Hz.lv
 refine⟨λi ys τ=>∃ a,τ=st a∧I i ys a,⟨a,e0,i0⟩,λi ys τ x hx ⟨a,e,h⟩=>?_,λys τ ⟨a,e,h⟩=>?_⟩
 ·subst e
  have e1:(λjS (p:PV)=>∃ fS,Sub jS fS∧∃ a,fS=st a∧I (i+1) (ys++[p]) a)=λjS p=>∃ b,Sub jS (st b)∧I (i+1) (ys++[p]) b:=funext λjS=>funext λp=>propext ⟨λ⟨_,h1,b,h2,h3⟩=>⟨b,h2▸h1,h3⟩,λ⟨b,h1,h2⟩=>⟨_,h1,b,rfl,h2⟩⟩
  have e2:(λkG=>∃ fS,Sub kG fS∧∃ a,fS=st a∧I (i+1) ys a)=λkG=>∃ b,Sub kG (st b)∧I (i+1) ys b:=funext λjS=>propext ⟨λ⟨_,h1,b,h2,h3⟩=>⟨b,h2▸h1,h3⟩,λ⟨b,h1,h2⟩=>⟨_,h1,b,rfl,h2⟩⟩
  have t:=turn A' env' uA i ys a x hx h
  simp only[←λτ p=>congrFun (congrFun e1 τ) p, ←λτ=>congrFun e2 τ] at t
  exact t
 ·subst e;exact fin ys a h
theorem Dj{γ:Type}{L:List γ}{g:γ→PV}{i:Nat}{ys:List PV}{x:γ}(h:ys=(L.take i).map g)(hx:L[i]? =some x):ys++[g x]=(L.take (i+1)).map g:=by
 rw[h,fJ,hx,kJ,b_];rfl
theorem lG{xs:List PV}{j:Nat}{Q:Res MV→St→Prop}{γ:Type}{fl:List (Str×MV)}(L:List γ)(fx g:γ→PV)(σ₀:St)(hxs:xs=L.map fx)(hz:L.length≤65535)(hfl:gx sc σ.locs scope.names=some fl)(e0:(⟨fl,σ.foot,σ.dom,[]⟩:St)=σ₀)
  (turn:∀ A' env' uA i ys x,L[i]? =some x→ys=(L.take i).map g→(oq S ⟨A',env',uA,n⟩ PG (i7 sc scope.names) j).asg target (.pv (fx x)) σ₀ (Co λz_ oE=>xW (oq S ⟨A',env',uA,n⟩ PG (i7 sc scope.names) j) ifs oE (Co λb kG=>match b with
   | true=>(oq S ⟨A',env',uA,n⟩ PG (i7 sc scope.names) j).ev elt kG (Co λy jS=>∃ p,y= .pv p∧∃ _:Unit,Sub jS σ₀∧ys++[p]=(L.take (i+1)).map g)
   | false=>∃ _:Unit,Sub kG σ₀∧ys=(L.take (i+1)).map g)))
  (fin:Q (.ok (.pv (.list (L.map g)))) ⟨σ.locs,σ₀.foot,σ₀.dom,σ.un⟩):vh S ⟨A,env,fr,n⟩ PG sc j target elt ifs scope xs σ Q:=by
 subst hxs
 refine qx (λz_:Unit=>σ₀) (λi ys z_=>ys=(L.take i).map g) (a:=()) (by rw[aC];exact hz) hfl e0 rfl (λA' env' uA i ys a x hx hi=>?_) (λys a h=>?_)
 ·rw[fH] at hx
  cases q:L[i]? with
  | none=>rw[q] at hx;exact bR hx
  | some y=>rw[q] at hx;cases hx;exact turn A' env' uA i ys y q hi
 ·rw[h,aC,e_];exact fin
theorem pP(c:Cx S)(en:En S ⟨A,env,fr,n⟩ sc)(k:Nat){body:List dO}{Q:Res cj→St→Prop}(h:xQ PG n (oq S ⟨A,env,fr,n⟩ PG sc k) target iter (forM (oq S ⟨A,env,fr,n⟩ PG sc k) target body) σ Q):gE S ⟨A,env,fr,n⟩ (.For target iter body [] pos) σ Q:=Mv c en k h
theorem pQ{xs:List PV}{ih:Ih}{body:List dO}{Q:Res cj→St→Prop}{α:Type}(st:α→St)(I:Nat→α→Prop){a:α}(i0:I 0 a)
  (turn:∀ i a x,xs[i]? =some x→I i a→let K:=vU (λσ₂=>∃ b,Sub σ₂ (st b)∧I (i+1) b) Q;let T:=Mc (λσ₁=>ih.exs body σ₁ K) Q;ih.asg target (.pv x) (st a) T)(fin:∀ a,I xs.length a→Q (.ok .next) (st a))(e:σ=st a):forM ih target body xs σ Q:=by
 refine⟨λi σ=>∃ a,σ=st a∧I i a,⟨a,e,i0⟩,λi σ x hx ⟨a,e,h⟩=>?_,λσ ⟨a,e,h⟩=>by rw[e];exact fin a h⟩
 subst e
 have e1:(λσ₂=>∃ σ₃,Sub σ₂ σ₃∧∃ a,σ₃=st a∧I (i+1) a)=λσ₂=>∃ b,Sub σ₂ (st b)∧I (i+1) b:=funext λjS=>propext ⟨λ⟨_,h1,b,h2,h3⟩=>⟨b,h2▸h1,h3⟩,λ⟨b,h1,h2⟩=>⟨_,h1,b,rfl,h2⟩⟩
 rw[e1]
 exact turn i a x hx h
end
noncomputable def Sa(x:UInt8):Int:=(x.toNat:Int)-87
structure Let(x:UInt8):Prop where
 lo:97≤(x.toNat:Int)
 hi:(x.toNat:Int)≤122
 e:(x.toNat:Int)≠101
theorem wD(c:Cx S){x:UInt8}(h:Let x)(hq:Q (.ok (iV ((x.toNat:Int)-87))) []):ao S (l+1) (fV 96) [u8 x] [] [] Q:=by
 have h1:=h.lo
 have h2:=h.hi
 exact bO c (F96_1 c) rfl rfl λA env fr en=>lq (decide_eq_true (bF (by decide) h1)) (ff (decide_eq_false (λq=>absurd (bF h1 q) (by decide))) (lq (decide_eq_true (bF (by decide) h1)) (ff (decide_eq_false (λq=>absurd (bF h1 q) (by decide))) (lq (decide_eq_true h1) (lq (decide_eq_true h2) hq)))))
theorem rJ(c:Cx S){y:UInt8}{w:List UInt8}(hz:(y::w).length≤65535)(hw:∀ x ∈ y::w,Let x)(hq:Q (.ok (.pv .none)) []):ao S (l+3) (fV 136) [.pv (.bytes false (y::w)),.pv (.int true 10)] [] [] Q:=by
 refine bO c (F136_2 c) rfl rfl λA env fr en=>?_
 refine qt c en 35 35 (by kernel_rfl) (by kernel_rfl) (by kernel_rfl) ?_
 refine lG (y::w) (λx=>PV.int false (x.toNat:Int)) (λx=>PV.int false ((x.toNat:Int)-87)) ⟨[],[],[],[]⟩ (qE _ _) hz rfl rfl (λA' env' uA i ys x hx hi=>?_) ?_
 ·exact wD c (hw x (bI hx)) ⟨_,rfl,cU () [("octet",u8 x)] rfl rfl (Dj hi hx)⟩
 ·refine bq false (bH rfl ?_)
  refine yx c en 35 35 (by kernel_rfl) (by kernel_rfl) ?_
  refine lG (y::w) (λx=>PV.int false ((x.toNat:Int)-87)) (λx=>PV.int false ((x.toNat:Int)-87)) ⟨[("base",.pv (.int true 10))],[],[],[]⟩ rfl hz rfl rfl (λA' env' uA i ys x hx hi=>?_) ?_
  ·have h:=(hw x (bI hx)).lo
   exact lq (decide_eq_true (Int.le_sub_right_of_add_le (bF (by decide) h))) ⟨_,rfl,cU () [("figure",iV ((x.toNat:Int)-87))] rfl rfl (Dj hi hx)⟩
  ·exact bq false (bH rfl hq)
end
end
section
open MineH (KK bg mA)
section
variable{S:Sx}{l:Nat}{F:br}{Q:Res MV→br→Prop}
theorem Hi(c:Cx S)(hq:Q (.ok (iV 7)) []):ao S (l+1) (fV 96) [u8 55] [] [] Q:=
 bO c (F96_1 c) rfl rfl λA env fr en=>hq
theorem Fd(c:Cx S)(hq:Q (.ok (iV 7)) []):ao S (l+2) (fV 143) [.pv (.list [.int false 7]),.pv (.int true 10)] [] [] Q:=by
 refine bO c (F143_2 c) rfl rfl λA env fr en=>?_
 intro f_ K_
 refine pP c en 35 ?_
 refine pQ (λa:Int=>⟨[("figures",.pv (.list [.int false 7])),("base",.pv (.int true 10)),("found",.pv (.int (decide (a=0)) a))],[],[],[]⟩) (λi a=>a=7*i) (a:=0) rfl (λi a x hx hi=>?_) (λa h=>?_) rfl
 ·intro L_ T_
  cases i with
  | zero=>
   cases hx
   subst hi
   exact cU 7 [("figure",iV 7)] rfl rfl rfl
  | succ i=>exact bR hx
 ·subst h;exact hq
theorem C8(c:Cx S)(hq:Q (.ok (iV 7)) []):ao S (l+4) (fV 136) [.pv (.bytes false [55]),.pv (.int true 10)] [] [] Q:=by
 refine bO c (F136_2 c) rfl rfl λA env fr en=>?_
 refine qt c en 35 35 (by kernel_rfl) (by kernel_rfl) (by kernel_rfl) ?_
 refine lG [(55:UInt8)] (λx=>PV.int false (x.toNat:Int)) (λx=>PV.int false 7) ⟨[],[],[],[]⟩ rfl (by decide) rfl rfl (λA' env' uA i ys x hx hi=>?_) ?_
 ·obtain rfl:x=55:=az.mp (bI hx)
  exact Hi c ⟨_,rfl,cU () [("octet",u8 55)] rfl rfl (Dj hi hx)⟩
 ·refine bq false (bH rfl ?_)
  refine yx c en 35 35 (by kernel_rfl) (by kernel_rfl) ?_
  refine qx (λz_:Unit=>⟨[("base",.pv (.int true 10))],[],[],[]⟩) (λi ys z_=>ys=[]) (a:=()) (by decide) rfl rfl rfl (λA' env' uA i ys a x hx hi=>?_) (λys a h=>?_)
  ·obtain rfl:x= .int false 7:=az.mp (bI hx)
   exact cU () [("figure",iV 7)] rfl rfl hi
  ·subst h
   exact bq true (bH rfl (Fd c hq))
theorem wW(c:Cx S)(hq:Q (.ok (bV true)) []):ao S (l+1) (fV 110) [iV 7] [] [] Q:=
 bO c (F110_1 c) rfl rfl λA env fr en=>hq
theorem IW(c:Cx S)(hq:Q (.ok (.pv (.tup [.str "integer",.int false 7]))) []):ao S (l+3) (fV 131) [iV 7] [] [] Q:=
 bO c (F131_1 c) rfl rfl λA env fr en=>wW c hq
theorem vO(c:Cx S){w sg:List UInt8}{fl:Bool}(hz:w.length≤65535)(h:∀ x ∈ w,sg.contains x=false)(hq:Q (.ok (.pv (.tup [.bytes false w,.none]))) []):ao S (l+2) (fV 178) [.pv (.bytes false w),.pv (.bytes fl sg)] [] [] Q:=by
 refine bO c (F178_2 c) rfl rfl λA env fr en=>?_
 intro f_ K_
 refine pP c en 35 ?_
 refine pQ (λz_:Unit=>⟨[("octets",.pv (.bytes false w)),("signs",.pv (.bytes fl sg))],[],[],[]⟩) (λi a=>True) (a:=()) trivial (λi a x hx hi=>?_) (λa z_=>hq) rfl
 intro L_ T_
 refine E1_2 (lI false w 0 i x hx) λy hy eV=>?_
 subst eV
 refine aR (by simp[CN]) (ff ?_ (cU () [("at",_),("octet",_)] rfl rfl trivial))
 show sg.contains (fX (y.toNat:Int).toNat)=false
 rw[z9];exact h y (bI hy)
theorem Let.ne{x y:UInt8}(h:Let x)(hy:(y.toNat:Int)<97∨(y.toNat:Int)=101):x≠y:=by
 rintro rfl
 have:=h.lo
 have:=h.e
 exact hy.elim (λq=>absurd q (gr.mpr (by assumption))) this
theorem Let.eE{x:UInt8}(h:Let x):[(101:UInt8),69].contains x=false:=by
 simp[h.ne (y:=101) (.inr rfl),h.ne (y:=69) (.inl (by decide))]
theorem Let.dot{x:UInt8}(h:Let x):[(46:UInt8)].contains x=false:=by
 simp[h.ne (y:=46) (.inl (by decide))]
theorem Bp(c:Cx S){w:List UInt8}(hz:w.length≤65535)(h:∀ x ∈ w,Let x){b:PV}(hq:Q (.ok (.pv .none)) []):ao S (l+4) (fV 185) [.pv (.bytes false w),.pv b] [] [] Q:=
 bO c (F185_2 c) rfl rfl λA env fr en=>vO c hz (λx hx=>(h x hx).eE) (vO c hz (λx hx=>(h x hx).dot) hq)
theorem J6{x y:UInt8}(h:x≠y):(([x]:List UInt8) == [y])=false:=by simp[h]
theorem oA(c:Cx S){y:UInt8}{w:List UInt8}(hz:(y::w).length≤65535)(h:∀ x ∈ y::w,Let x)(hq:Q (.ok (.pv .none)) []):ao S (l+6) (fV 192) [.pv (.bytes false (y::w))] [] [] Q:=by
 have hy:=h y (.head _)
 refine bO c (F192_1 c) rfl rfl λA env fr en=>?_
 intro f_ K_
 refine pP c en 35 ?_
 refine pQ (λz_:Unit=>⟨[("octets",.pv (.bytes false (y::w)))],[],[],[]⟩) (λi a=>True) (a:=()) trivial (λi a x hx hi=>?_) (λa z_=>?_) rfl
 ·intro L_ T_
  refine E1_2 (lI false (y::w) 0 i x hx) λz hz eV=>?_
  subst eV
  exact ff (decide_eq_false λe=>(h z (bI hz)).ne (y:=35) (.inl (by decide)) (rz.mp e)) (cU () [("at",_),("octet",_)] rfl rfl trivial)
 ·have sz:=cA hz
  have e1:(([43]:List UInt8) == [y])=false:=J6 λe=>hy.ne (y:=43) (.inl (by decide)) e.symm
  have e2:(([45]:List UInt8) == [y])=false:=J6 λe=>hy.ne (y:=45) (.inl (by decide)) e.symm
  have e3:(([y]:List UInt8) == [45])=false:=J6 (hy.ne (.inl (by decide)))
  have e4:(([43]:List UInt8) == [y]||(([45]:List UInt8) == [y]||false))=false:=by rw[e1,e2];rfl
  exact aR sz (bq _ (bH rfl (ff e4 (aR sz (aR sz (rJ c (y:=y) (w:=w) hz h (aR sz (Bp c (w:=y::w) hz h hq))))))))
theorem read_number_7(c:Cx S)(hq:Q (.ok (.pv (.tup [.str "integer",.int false 7]))) []):ao S (l+6) (fV 192) [.pv (.bytes false [55])] [] [] Q:=by
 refine bO c (F192_1 c) rfl rfl λA env fr en=>?_
 intro f_ K_
 refine pP c en 35 ?_
 refine pQ (λz_:Unit=>⟨[("octets",.pv (.bytes false [55]))],[],[],[]⟩) (λi a=>True) (a:=()) trivial (λi a x hx hi=>?_) (λa z_=>?_) rfl
 ·intro L_ T_
  refine E1_2 (lI false [55] 0 i x hx) λz hz eV=>?_
  subst eV
  obtain rfl:z=55:=az.mp (bI hz)
  exact cU () [("at",_),("octet",_)] rfl rfl trivial
 ·exact bq _ (bH rfl (C8 c (IW c hq)))
noncomputable abbrev gj:List UInt8:=[108,105,109,105,116,99,104,101,99,107]
noncomputable abbrev qT:List UInt8:=[117,110,100,101,102,105,110,101,100]
noncomputable abbrev DX:List UInt8:=[115,121,110,116,97,120,101,114,114,111,114]
noncomputable abbrev Ac:List UInt8:=[105,110,118,97,108,105,100,97,99,99,101,115,115]
noncomputable abbrev FO(w:List UInt8)(e:PV):PV:=eH (.str "name") (.bytes false w) e (.int false 3)
theorem i9(c:Cx S){w:List UInt8}{e:PV}(h:w.length≤127)(hq:Q (.ok (.pv (FO w e))) []):ao S (l+6) (fV 500) [.pv (.bytes false w),.pv e,iV 127] [] [] Q:=
 bO c (F500_3 c) rfl rfl λA env fr en=>aR (cA (aa h (by decide))) (ff (decide_eq_false (λq=>gb h (fT.mp q))) (Fz c hq))
theorem qd(c:Cx S){w:List UInt8}{e:PV}(h:127<w.length)(hz:w.length≤65535)(hq:Q (.exc gj) []):ao S (l+6) (fV 500) [.pv (.bytes false w),.pv e,iV 127] [] [] Q:=
 bO c (F500_3 c) rfl rfl λA env fr en=>aR (cA hz) (lq (decide_eq_true (fT.mpr h)) (o6 c en rfl hq))
theorem regular_7(c:Cx S)(hq:Q (.ok (.pv (eH (.str "integer") (.int false 7) (.bool false false) (.int false 3)))) []):ao S (l+8) (fV 507) [.pv (.bytes false [55]),iV 127] [] [] Q:=
 bO c (F507_2 c) rfl rfl λA env fr en=>read_number_7 c (pS c hq)
theorem DA(c:Cx S){y:UInt8}{w:List UInt8}(h:(y::w).length≤127)(hw:∀ x ∈ y::w,Let x)(hq:Q (.ok (.pv (FO (y::w) (.bool true true)))) []):ao S (l+8) (fV 507) [.pv (.bytes false (y::w)),iV 127] [] [] Q:=
 bO c (F507_2 c) rfl rfl λA env fr en=>oA c (aa h (by decide)) hw (i9 c h hq)
theorem DB(c:Cx S){y:UInt8}{w:List UInt8}(h:127<(y::w).length)(hz:(y::w).length≤65535)(hw:∀ x ∈ y::w,Let x)(hq:Q (.exc gj) []):ao S (l+8) (fV 507) [.pv (.bytes false (y::w)),iV 127] [] [] Q:=
 bO c (F507_2 c) rfl rfl λA env fr en=>oA c hz hw (qd c h hz hq)
end
end
section
open MineH (KK bg mA)
section
variable{S:Sx}{l:Nat}{F:br}{Q:Res MV→br→Prop}
variable{k v e a b s m n g:PV}
inductive Loc:PV→Bool→Prop
 | int {x y z:PV}:Loc (eH (.str "integer") x y z) false
 | name {x y z:PV}:Loc (eH (.str "name") x y z) false
 | text {i lv st mn y z:PV}{bs:List UInt8}{f gl:Bool}:Loc (eH (.str "string") (yb (IT i bs (.bool f gl) lv) st mn) y z) (!gl)
 | row {t:Option au}{i lv st mn y z:PV}{vs:List PV}{f gl:Bool}:Loc (eH (.str "array") (yb (ya t i vs (.bool f gl) lv) st mn) y z) (!gl)
 | pack {t:Option au}{i lv st mn y z:PV}{vs:List PV}{f gl:Bool}:Loc (eH (.str "packed") (yb (ya t i vs (.bool f gl) lv) st mn) y z) (!gl)
theorem m7(c:Cx S){x:Str}{b:Bool}(h:(bT x "array"||bT x "packed")=b)(hq:Q (.ok (bV b)) []):ao S (l+1) (fV 337) [.pv (eH (.str x) v e a)] [] [] Q:=by
 subst h
 refine ao.flag (bO c (F337_1 c) rfl rfl λA env fr en=>iH (λh=>?_) (λh=>?_))
 ·rw[show bT x "array"=true from h] at hq;exact hq
 ·rw[show bT x "array"=false from h] at hq;exact hq
theorem Ej(c:Cx S)(hq:Q (.ok (.pv .none)) []):ao S (l+3) (fV 344) [.pv (eH (.str "integer") v e a)] [] [] Q:=
 bO c (F344_1 c) rfl rfl λA env fr en=>m7 c rfl hq
theorem CW(c:Cx S)(hq:Q (.ok (.pv .none)) []):ao S (l+3) (fV 344) [.pv (eH (.str "name") v e a)] [] [] Q:=
 bO c (F344_1 c) rfl rfl λA env fr en=>m7 c rfl hq
theorem CY(c:Cx S){i lv:PV}{bs:List UInt8}(hq:Q (.ok (.pv (IT i bs g lv))) []):ao S (l+3) (fV 344) [.pv (eH (.str "string") (yb (IT i bs g lv) s m) e a)] [] [] Q:=
 bO c (F344_1 c) rfl rfl λA env fr en=>hq
theorem Ek(c:Cx S){t:Option au}{i lv:PV}{vs:List PV}(hq:Q (.ok (.pv (ya t i vs g lv))) []):ao S (l+3) (fV 344) [.pv (eH (.str "array") (yb (ya t i vs g lv) s m) e a)] [] [] Q:=
 bO c (F344_1 c) rfl rfl λA env fr en=>m7 c rfl hq
theorem CX(c:Cx S){t:Option au}{i lv:PV}{vs:List PV}(hq:Q (.ok (.pv (ya t i vs g lv))) []):ao S (l+3) (fV 344) [.pv (eH (.str "packed") (yb (ya t i vs g lv) s m) e a)] [] [] Q:=
 bO c (F344_1 c) rfl rfl λA env fr en=>m7 c rfl hq
theorem vF(c:Cx S){t:PV}{b:Bool}(h:Loc t b)(hq:Q (.ok (bV b)) []):ao S (l+5) (fV 351) [.pv t] [] [] Q:=by
 cases h with
 | int=>exact ao.flag (bO c (F351_1 c) rfl rfl λA env fr en=>Ej c hq)
 | name=>exact ao.flag (bO c (F351_1 c) rfl rfl λA env fr en=>CW c hq)
 | text=>exact ao.flag (bO c (F351_1 c) rfl rfl λA env fr en=>CY c hq)
 | row=>exact ao.flag (bO c (F351_1 c) rfl rfl λA env fr en=>Ek c hq)
 | pack=>exact ao.flag (bO c (F351_1 c) rfl rfl λA env fr en=>CX c hq)
theorem mL(c:Cx S){f1 f2:Bool}{x y:Int}(h0:0≤x)(h1:x≤y)(hq:Q (.ok (.pv .none)) []):ao S (l+2) (fV 937) [.pv (.int f1 x),.pv (.int f2 y)] [] [] Q:=
 bO c (F937_2 c) rfl rfl λA env fr en=>ff (decide_eq_false (gr.mpr h0)) (ff (decide_eq_false (gr.mpr h1)) hq)
theorem uM(c:Cx S){f1 f2:Bool}{x y:Int}(h0:0≤x)(h1:y<x)(hq:Q (.exc gj) []):ao S (l+2) (fV 937) [.pv (.int f1 x),.pv (.int f2 y)] [] [] Q:=
 bO c (F937_2 c) rfl rfl λA env fr en=>ff (decide_eq_false (gr.mpr h0)) (lq (decide_eq_true (h1)) (o6 c en rfl hq))
noncomputable abbrev Qn(row:PV):PV:=.obj none 626 [("operands",.int false 500),("dicts",.int false 20),("frames",.int false 250),("saves",.int false 15),("gstates",.int false 31),("text",.int false 65535),("row",row),("entries",.int false 65535),("word",.int false 127),("path",.int false 1500),("dash",.int false 11),("files",.int false 15),("system",.int false 600),("vm",.int false 16777216)]
structure Mem where
 r:Int
 fr:Bool
 g:Bool
 fg:Bool
 u:Int
 fu:Bool
 w:Int
 fw:Bool
 c:Nat
 fc:Bool
 n:Nat
 ex:Bool
noncomputable abbrev Fq(m:Mem):eg:=.inst 928 [("limits",.pv (Qn (.int m.fr m.r))),("is_global",.pv (.bool m.fg m.g)),("saves",.pv (.list [])),("journal",.pv (.list [])),("made",.loc 12),("freed",.pv (.list [])),("used",.pv (.int m.fu m.u)),("used_global",.pv (.int m.fw m.w)),("last_body",.pv (.int m.fc m.c)),("last_save",.pv (.int true 0))]
noncomputable abbrev mF(m:Mem):br:=[(3,Fq m),(12,.fZ m.ex m.n)]
theorem HL(c:Cx S){f:Bool}{r:Int}(hq:Q (.ok (.pv (Qn (.int f r)))) []):ao S (l+2) (fV 626) [] [("row",.pv (.int f r))] [] Q:=
 ao.l_ (uN c (O2 c) 30 rfl (bO c (F623_1 c) rfl rfl λA env fr en=>λz_=>hq))
theorem KR(c:Cx S){m:Mem}(hq:Q (.ok (iV 0)) (mF m)):ao S (l+1) (fV 672) [.loc 3] [] (mF m) Q:=
 bO c (F672_1 c) rfl rfl λA env fr en=>hq
theorem kQ(c:Cx S){m:Mem}(hq:Q (.ok (iV 0)) (mF m)):ao S (l+3) (fV 680) [.loc 3] [] (mF m) Q:=
 ao.flag (bO c (F680_1 c) rfl rfl λA env fr en=>iH (λz_=>hq) λz_=>KR c hq)
theorem yv(c:Cx S){m:Mem}{f:Bool}{x:Int}(h:m.u+m.w+x≤16777216)(hq:Q (.ok (.pv .none)) (mF m)):ao S (l+1) (fV 694) [.loc 3,.pv (.int f x)] [] (mF m) Q:=
 bO c (F694_2 c) rfl rfl λA env fr en=>ff (decide_eq_false (gr.mpr h)) hq
theorem o7(c:Cx S){m:Mem}{f:Bool}{x:Int}(h:m.u+m.w+x≤16777216)(hn:m.n≤60000)(hq:∀ m':Mem,m'.g=m.g→m'.r=m.r→m'.c=m.c+1→m'.n=m.n+1→m'.u+m'.w=m.u+m.w+x→Q (.ok (iV (m.c+1:Nat))) (mF m')):ao S (l+5) (fV 687) [.loc 3,.pv (.int f x)] [] (mF m) Q:=by
 refine ao.flag (bO c (F687_2 c) rfl rfl λA env fr en=>?_)
 intro f_ K_
 refine yv c h (kQ c (m:={m with c:=m.c+1,fc:=m.fc&&true}) ?_)
 refine aR (cA (aa hn (by decide))) (iH (λhg=>?_) λhg=>?_)
 ·exact hq {m with c:=m.c+1,fc:=m.fc&&true,n:=m.n+1,ex:=false,w:=m.w+x,fw:=m.fw&&f} rfl rfl rfl rfl (by show m.u+(m.w+x)=_;exact(Int.add_assoc _ _ _).symm)
 ·exact hq {m with c:=m.c+1,fc:=m.fc&&true,n:=m.n+1,ex:=false,u:=m.u+x,fu:=m.fu&&f} rfl rfl rfl rfl (by show m.u+x+m.w=_;exact Int.add_right_comm _ _ _)
structure Mem.yc(m m':Mem)(x:Int):Prop where
 g:m'.g=m.g
 r:m'.r=m.r
 c:m'.c=m.c+1
 n:m'.n=m.n+1
 u:m'.u+m'.w=m.u+m.w+x
theorem GG(c:Cx S){m:Mem}{fl:Bool}{bs:List UInt8}(hz:bs.length≤65535)(h:m.u+m.w+bs.length≤16777216)(hn:m.n≤60000)(hq:∀ m':Mem,m.yc m' bs.length→Q (.ok (.pv (IT (.int false (m.c+1:Nat)) bs (.bool m'.fg m'.g) (.int false 0)))) (mF m')):ao S (l+7) (fV 708) [.loc 3,.pv (.bytes fl bs)] [] (mF m) Q:=
 bO c (F708_2 c) rfl rfl λA env fr en=>aR (cA hz) (mL c (cu _) (iN.mpr hz) (aR (cA hz) (o7 c h hn λm' a1 a2 a3 a4 a5=>kQ c (Od c hz (hq m' ⟨a1,a2,a3,a4,a5⟩)))))
theorem Gw{n:Nat}(h:n≤65535):(lB 8&&lB (n:Int))=true:=by
 simp only[lB]
 rw[bx (show(n:Int).natAbs≤1099511627776 by exact(show n≤1099511627776 from aa h (by decide)))];rfl
theorem vJ(c:Cx S){m:Mem}{vs:List PV}(hz:vs.length≤60000)(hr:(vs.length:Int)≤m.r)(h:m.u+m.w+8*vs.length≤16777216)(hn:m.n≤60000)(hv:m.g=true→∀ t ∈ vs,Loc t false)
  (hq:∀ m':Mem,m.yc m' (8*vs.length)→∀ t,Q (.ok (.pv (ya (some t) (.int false (m.c+1:Nat)) vs (.bool m'.fg m'.g) (.int false 0)))) (mF m')):ao S (l+7) (fV 715) [.loc 3,.pv (.list vs)] [] (mF m) Q:=by
 have sz:=cA (aa hz (by decide))
 refine bO c (F715_2 c) rfl rfl λA env fr en=>?_
 intro f_ K_
 refine aR sz (mL c (cu _) hr (iH (λhg=>pP c en 36 ?_) λhg=>?_))
 ·refine pQ (λz_:Unit=>⟨[("self",.loc 3),("things",.pv (.list vs))],mF m,[3,12],[]⟩) (λi a=>True) (a:=()) trivial (λi a x hx hi=>?_) (λa z_=>?_) rfl
  ·intro L_
   exact vF c (hv hg x (bI hx)) (cU () [("thing",.pv x)] rfl rfl trivial)
  ·exact aR sz (aR (Gw (aa hz (by decide))) (o7 c (m:=m) h hn λm' a1 a2 a3 a4 a5=>kQ c (m:=m') (JL c (aa hz (by decide)) (hq m' ⟨a1,a2,a3,a4,a5⟩))))
 ·exact aR sz (aR (Gw (aa hz (by decide))) (o7 c (m:=m) h hn λm' a1 a2 a3 a4 a5=>kQ c (m:=m') (JL c (aa hz (by decide)) (hq m' ⟨a1,a2,a3,a4,a5⟩))))
end
end
section
open MineH (KK bg mA)
section
variable{S:Sx}{l:Nat}{F:br}{Q:Res MV→br→Prop}
variable{k v e a b s n g:PV}
theorem uW(c:Cx S){m:Mem}{vs:List PV}(hz:vs.length≤60000)(hr:m.r<(vs.length:Int))(hq:Q (.exc gj) (mF m)):ao S (l+7) (fV 715) [.loc 3,.pv (.list vs)] [] (mF m) Q:=
 bO c (F715_2 c) rfl rfl λA env fr en=>aR (cA (aa hz (by decide))) (uM c (cu _) hr hq)
theorem tM(c:Cx S){m:Mem}{vs:List PV}(L:PV→Bool)(hz:vs.length≤60000)(hr:(vs.length:Int)≤m.r)(hg:m.g=true)(hv:∀ t ∈ vs,Loc t (L t))(hl:vs.any L=true)(hq:Q (.exc Ac) (mF m)):ao S (l+7) (fV 715) [.loc 3,.pv (.list vs)] [] (mF m) Q:=by
 refine bO c (F715_2 c) rfl rfl λA env fr en=>?_
 intro f_ K_
 refine aR (cA (aa hz (by decide))) (mL c (cu _) hr (lq hg (pP c en 36 ?_)))
 refine pQ (λz_:Unit=>⟨[("self",.loc 3),("things",.pv (.list vs))],mF m,[3,12],[]⟩) (λi a=>(vs.take i).any L=false) (a:=()) rfl (λi a x hx hi=>?_) (λa h=>?_) rfl
 ·intro L_
  refine vF c (hv x (bI hx)) (iH (λz_=>o6 c en rfl hq) λq=>cU () [("thing",.pv x)] rfl rfl (?_))
  rw[fJ,hx,List.any_append,hi,kJ,j0,q];rfl
 ·rw[e_,hl] at h;exact nomatch h
theorem yD{n:Nat}(h:n≤65535):uQ (some 0) (some (0+(n:Int))) n=true:=by
 simp only[uQ]
 rw[cA h,decide_eq_true (show(0:Int)≤0+(n:Int) by exact cu (0+n))];rfl
theorem yC{α:Type}{l:List α}:oR (some 0) (some (0+(l.length:Int))) l=l:=by
 simp only[oR]
 rw[show(0+(l.length:Int)).toNat=l.length by exact congrArg o9 (Int.zero_add _),e_];rfl
theorem rO(c:Cx S){i lv:PV}{bs:List UInt8}(hz:bs.length≤65535)(hq:Q (.ok (.pv (.bytes false bs))) []):ao S (l+1) (fV 358) [.pv (yb (IT i bs g lv) (.int true 0) (.int false bs.length))] [] [] Q:=by
 have e:=yC (l:=bs)
 refine bO c (F358_1 c) rfl rfl λA env fr en=>aR (yD hz) (aR (by rw[e];exact cA hz) ?_)
 rw[←e] at hq
 exact hq
theorem rR(c:Cx S){t:Option au}{i lv:PV}{vs:List PV}(hz:vs.length≤65535)(hq:Q (.ok (.pv (.list vs))) []):ao S (l+1) (fV 365) [.pv (yb (ya t i vs g lv) (.int true 0) (.int false vs.length))] [] [] Q:=by
 have e:=yC (l:=vs)
 refine bO c (F365_1 c) rfl rfl λA env fr en=>aR (yD hz) ?_
 rw[←e] at hq
 exact hq
theorem Cx.cl(c:Cx S):D3 S:=by
 constructor
 ·rw[c.fN];kernel_rfl
 ·rw[c.fN];kernel_rfl
 ·rw[c.fN];kernel_rfl
 ·rw[c.fN];kernel_rfl
 ·intro cl doc pm cd ct v St;rw[c.fN,c.K];kernel_rfl
theorem Cw(c:Cx S){k:Nat}{p:MV}{ra:List PV}{eb:List (List UInt8×PV)}(ho:cN F 8=some (.clos 6 7))(ha:cN F 6=some (.list ra))(hb:cN F 7=some (.iT eb))
  (h:∀ A env fr,En S ⟨A,env,fr,k⟩ pK.scope.names→(oq S ⟨A,env,fr,k⟩ PG pK.scope.names 40).exs pK.body ⟨[("word",p),("asked",.loc 6),("known",.loc 7)],F,F.map (·.1),[]⟩ (Dt F Q)):ao S (k+1) (.loc 8) [p] [] F Q:=by
 refine Er (P:=PG) c.ok c.pg c.cl (jJ k) (by decide) ho ha hb λf en n rel=>?_
 obtain⟨A,env,fr,lv⟩:=f
 obtain rfl:lv=k:=en.lv
 have I_:En S ⟨A,env,fr,lv⟩ pK.scope.names:=⟨en.ok,en.nodup,by rw[en.scope,c.fN],en.own,en.frame,en.hand⟩
 rw[c.fN]
 exact(qD c.ok en.ok en.nodup c.pg I_.names 40).exs _ n _ _ rel (h A env fr I_)
noncomputable abbrev iS:List UInt8:=[102,105,118,101]
noncomputable abbrev lT:List UInt8:=[114,111,119]
noncomputable abbrev qW:List UInt8:=[103,111,110,101]
noncomputable abbrev oK:List UInt8:=[98,97,100]
noncomputable abbrev LI(x y:PV):List (List UInt8×PV):=[(iS,x),(lT,y)]
noncomputable abbrev wF(ra:List PV)(x y:PV):br:=[(8,.clos 6 7),(6,.list ra),(7,.iT (LI x y))]
theorem vI(c:Cx S){ra:List PV}{x y:PV}{w:List UInt8}{r:PV}(hz:ra.length≤65535)(hw:w.length≤65535)(hb:(w == oK)=false)(hr:qX (LI x y) w=r)(hq:Q (.ok (.pv r)) (wF (.bytes false w::ra) x y)):ao S (l+2) (.loc 8) [.pv (.bytes false w)] [] (wF ra x y) Q:=by
 exact Cw c rfl rfl rfl λA env fr en=>aR (cA hz) (ff hb (bq r (bH hr hq)))
theorem AX(c:Cx S){ra:List PV}{x y:PV}(hz:ra.length≤65535)(hq:Q (.exc qT) (wF (.bytes false oK::ra) x y)):ao S (l+2) (.loc 8) [.pv (.bytes false oK)] [] (wF ra x y) Q:=
 Cw c rfl rfl rfl λA env fr en=>aR (cA hz) (o6 c en rfl hq)
theorem sQ(c:Cx S){ra:List PV}{x y:PV}{w:List UInt8}(hz:ra.length≤65535)(hw:w.length≤127)(hb:(w == oK)=false)(hr:qX (LI x y) w=eH k v e a)(hq:Q (.ok (.pv (eH k v e a))) (wF (.bytes false w::ra) x y)):ao S (l+8) (fV 514) [.pv (.bytes false w),.loc 8,iV 127] [] (wF ra x y) Q:=
 bO c (F514_3 c) rfl rfl λA env fr en=>i9 c hw (vI c hz (aa hw (by decide)) hb hr hq)
theorem wj(c:Cx S){ra:List PV}{x y:PV}{w:List UInt8}(hz:ra.length≤65535)(hw:w.length≤127)(hb:(w == oK)=false)(hr:qX (LI x y) w= .none)(hq:Q (.exc qT) (wF (.bytes false w::ra) x y)):ao S (l+8) (fV 514) [.pv (.bytes false w),.loc 8,iV 127] [] (wF ra x y) Q:=
 bO c (F514_3 c) rfl rfl λA env fr en=>i9 c hw (vI c hz (aa hw (by decide)) hb hr (o6 c en rfl hq))
theorem yj(c:Cx S){ra:List PV}{x y:PV}(hz:ra.length≤65535)(hq:Q (.exc qT) (wF (.bytes false oK::ra) x y)):ao S (l+8) (fV 514) [.pv (.bytes false oK),.loc 8,iV 127] [] (wF ra x y) Q:=
 bO c (F514_3 c) rfl rfl λA env fr en=>i9 c (by decide) (AX c hz hq)
noncomputable abbrev LN:eg:=.inst 604 [("memory",.loc 3)]
noncomputable abbrev zW(m:Mem):br:=(5,LN)::mF m
noncomputable abbrev OR(i:Nat)(bs:List UInt8)(f b:Bool):PV:=eH (.str "string") (yb (IT (.int false (i:Nat)) bs (.bool f b) (.int false 0)) (.int true 0) (.int false bs.length)) (.bool false false) (.int false 3)
theorem IC(c:Cx S){m:Mem}{bs:List UInt8}(hz:bs.length≤65535)(h:m.u+m.w+bs.length≤16777216)(hn:m.n≤60000)(hq:∀ m':Mem,m.yc m' bs.length→Q (.ok (.pv (OR (m.c+1) bs m'.fg m'.g))) (zW m')):ao S (l+9) (fV 535) [.loc 5,.pv (.bytes false bs)] [] (zW m) Q:=
 bO c (F535_2 c) rfl rfl λA env fr en=>GG c (m:=m) hz h hn λm' hm=>Bg c hz (hq m' hm)
noncomputable abbrev Ig(t:Option au)(i:Nat)(vs:List PV)(f b pk:Bool):PV:=eH (.str (cond pk "packed" "array")) (yb (ya t (.int false (i:Nat)) vs (.bool f b) (.int false 0)) (.int true 0) (.int false vs.length)) (.bool true true) (.int pk (cond pk 2 3))
theorem tX(c:Cx S){m:Mem}{vs:List PV}{fp pk:Bool}(hz:vs.length≤60000)(hr:(vs.length:Int)≤m.r)(h:m.u+m.w+8*vs.length≤16777216)(hn:m.n≤60000)(hv:m.g=true→∀ t ∈ vs,Loc t false)
  (hq:∀ m':Mem,m.yc m' (8*vs.length)→∀ t,Q (.ok (.pv (Ig (some t) (m.c+1) vs m'.fg m'.g pk))) (zW m')):ao S (l+9) (fV 542) [.loc 5,.pv (.list vs),.pv (.bool fp pk)] [] (zW m) Q:=
 bO c (F542_3 c) rfl rfl λA env fr en=>vJ c (m:=m) hz hr h hn hv λm' hm t=>iH (λe=>Bf c (aa hz (by decide)) (by subst e;exact hq m' hm t)) λe=>F1 c (aa hz (by decide)) (by subst e;exact hq m' hm t)
theorem tY(c:Cx S){m:Mem}{vs:List PV}{fp pk:Bool}(hz:vs.length≤60000)(hr:m.r<(vs.length:Int))(hq:Q (.exc gj) (zW m)):ao S (l+9) (fV 542) [.loc 5,.pv (.list vs),.pv (.bool fp pk)] [] (zW m) Q:=
 bO c (F542_3 c) rfl rfl λA env fr en=>uW c (m:=m) hz hr hq
theorem rP(c:Cx S){m:Mem}{vs:List PV}{fp pk:Bool}(L:PV→Bool)(hz:vs.length≤60000)(hr:(vs.length:Int)≤m.r)(hg:m.g=true)(hv:∀ t ∈ vs,Loc t (L t))(hl:vs.any L=true)(hq:Q (.exc Ac) (zW m)):ao S (l+9) (fV 542) [.loc 5,.pv (.list vs),.pv (.bool fp pk)] [] (zW m) Q:=
 bO c (F542_3 c) rfl rfl λA env fr en=>tM c (m:=m) L hz hr hg hv hl hq
noncomputable abbrev Ov(m:Mem)(bs:List UInt8)(p:Nat)(t:PV):br:=[(5,LN),(3,Fq m),(12,.fZ m.ex m.n),(2,rQ bs p t)]
theorem uu(c:Cx S){m:Mem}{bs R W:List UInt8}{p:Nat}{t:PV}(hz:bs.length≤aB)(hr:d8 [] (bs.drop p)=some (W,R))(hw:W.length≤65535)(hq:∀ p' t',bs.drop p'=R→Q (.ok (.pv (.bytes false W))) (Ov m bs p' t')):
  ao S (l+7) (fV 549) [.loc 5,.loc 2] [] (Ov m bs p t) Q:=
 bO c (F549_2 c) rfl rfl λA env fr en=>Bt c hz hr hw hq
end
end
section
set_option tactic.hygienic true
open MineH (KK bg mA)
section
variable{S:Sx}{l:Nat}{F:br}{Q:Res MV→br→Prop}
variable{k v e a b s n g x y:PV}{m:Mem}{bs R W:List UInt8}{p:Nat}{t:PV}{ra:List PV}{ex:List UInt8}
noncomputable abbrev dP(m:Mem)(bs:List UInt8)(p:Nat)(t:PV)(ra:List PV)(x y:PV):br:=[(5,LN),(2,rQ bs p t),(3,Fq m),(12,.fZ m.ex m.n),(8,.clos 6 7),(6,.list ra),(7,.iT (LI x y))]
theorem zP(c:Cx S)(hz:bs.length≤aB)(hp:p<bs.length)(Ku:bs.getD p 0=47)(hr:d8 [] (bs.drop (p+1))=some (W,R))(hw:W.length≤65535)
  (once:∀ l (Q:Res MV→br→Prop),Q (.ok (.pv (eH k v e a))) (wF (.bytes false W::ra) x y)→ao S (l+8) (fV 514) [.pv (.bytes false W),.loc 8,iV 127] [] (wF ra x y) Q)
  (hq:∀ p' t',bs.drop p'=R→Q (.ok (.pv (eH k v e a))) (dP m bs p' t' (.bytes false W::ra) x y)):ao S (l+10) (fV 556) [.loc 5,.loc 2,.loc 8] [] (dP m bs p t ra x y) Q:=
 bO c (F556_3 c) rfl rfl λA env fr en=>lz c hz hp (lq (decide_eq_true (by rw[Ku];rfl)) (uu c (m:=m) hz hr hw λp' t' tB=>once _ _ (hq p' t' tB)))
theorem zO(c:Cx S)(hz:bs.length≤aB)(hp:p<bs.length)(Ku:bs.getD p 0=47)(hr:d8 [] (bs.drop (p+1))=some (W,R))(hw:W.length≤65535)
  (once:∀ l (Q:Res MV→br→Prop),Q (.exc ex) (wF (.bytes false W::ra) x y)→ao S (l+8) (fV 514) [.pv (.bytes false W),.loc 8,iV 127] [] (wF ra x y) Q)
  (hq:∀ p' t',bs.drop p'=R→Q (.exc ex) (dP m bs p' t' (.bytes false W::ra) x y)):ao S (l+10) (fV 556) [.loc 5,.loc 2,.loc 8] [] (dP m bs p t ra x y) Q:=
 bO c (F556_3 c) rfl rfl λA env fr en=>lz c hz hp (lq (decide_eq_true (by rw[Ku];rfl)) (uu c (m:=m) hz hr hw λp' t' tB=>once _ _ (hq p' t' tB)))
theorem uc(c:Cx S)(hz:bs.length≤aB)(hp:p<bs.length)(Ku:bs.getD p 0≠47)(hr:d8 [] (bs.drop p)=some (W,R))(hw:W.length≤127)
  (hq:∀ p' t',bs.drop p'=R→Q (.ok (.pv (FO W (.bool true false)))) (dP m bs p' t' ra x y)):ao S (l+10) (fV 556) [.loc 5,.loc 2,.loc 8] [] (dP m bs p t ra x y) Q:=
 bO c (F556_3 c) rfl rfl λA env fr en=>lz c hz hp (ff (decide_eq_false λq=>Ku (rz.mp q)) (ve c (uu c (m:=m) hz hr (aa hw (by decide)) λp' t' tB=>i9 c hw (hq p' t' tB))))
theorem BC(c:Cx S)(hz:bs.length≤aB)(hp:p<bs.length)(Ku:bs.getD p 0≠47)(hr:d8 [] (bs.drop p)=some (W,R))(hw:127<W.length)(MK:W.length≤65535)
  (hq:∀ p' t',bs.drop p'=R→Q (.exc gj) (dP m bs p' t' ra x y)):ao S (l+10) (fV 556) [.loc 5,.loc 2,.loc 8] [] (dP m bs p t ra x y) Q:=
 bO c (F556_3 c) rfl rfl λA env fr en=>lz c hz hp (ff (decide_eq_false λq=>Ku (rz.mp q)) (ve c (uu c (m:=m) hz hr MK λp' t' tB=>qd c hw MK (hq p' t' tB))))
theorem i6(c:Cx S){ra':List PV}(h:∀ l (Q:Res MV→br→Prop),(∀ p' t',bs.drop p'=R→Q (.ok (.pv (eH k v e a))) (dP m bs p' t' ra' x y))→ao S (l+10) (fV 556) [.loc 5,.loc 2,.loc 8] [] (dP m bs p t ra x y) Q)
  (hq:∀ p' t',bs.drop p'=R→Q (.ok (.pv (eH k v e a))) (dP m bs p' t' ra' x y)):ao S (l+12) (fV 577) [.loc 5,.loc 2,u8 47,.loc 8] [] (dP m bs p t ra x y) Q:=
 bO c (F577_4 c) rfl rfl λA env fr en=>h _ _ hq
theorem kD(c:Cx S){ra':List PV}(h:∀ l (Q:Res MV→br→Prop),(∀ p' t',bs.drop p'=R→Q (.exc ex) (dP m bs p' t' ra' x y))→ao S (l+10) (fV 556) [.loc 5,.loc 2,.loc 8] [] (dP m bs p t ra x y) Q)
  (hq:∀ p' t',bs.drop p'=R→Q (.exc ex) (dP m bs p' t' ra' x y)):ao S (l+12) (fV 577) [.loc 5,.loc 2,u8 47,.loc 8] [] (dP m bs p t ra x y) Q:=
 bO c (F577_4 c) rfl rfl λA env fr en=>h _ _ hq
theorem xy(c:Cx S)(hz:bs.length≤aB)(hr:qf [] (bs.drop p)=some (W,R))(hw:W.length≤65535)(h:m.u+m.w+W.length≤16777216)(hn:m.n≤60000)
  (hq:∀ p' t' m',bs.drop p'=R→m.yc m' W.length→Q (.ok (.pv (OR (m.c+1) W m'.fg m'.g))) (dP m' bs p' t' ra x y)):ao S (l+12) (fV 577) [.loc 5,.loc 2,u8 40,.loc 8] [] (dP m bs p t ra x y) Q:=
 bO c (F577_4 c) rfl rfl λA env fr en=>xJ c hz hr hw λp' t' tB=>IC c (m:=m) hw h hn λm' hm=>hq p' t' m' tB hm
theorem Bl(c:Cx S)(hq:Q (.ok (.pv (FO [91] (.bool true true)))) (dP m bs p t ra x y)):ao S (l+12) (fV 577) [.loc 5,.loc 2,u8 91,.loc 8] [] (dP m bs p t ra x y) Q:=
 bO c (F577_4 c) rfl rfl λA env fr en=>Fz c hq
theorem zB(c:Cx S)(hq:Q (.ok (.pv (FO [93] (.bool true true)))) (dP m bs p t ra x y)):ao S (l+12) (fV 577) [.loc 5,.loc 2,u8 93,.loc 8] [] (dP m bs p t ra x y) Q:=
 bO c (F577_4 c) rfl rfl λA env fr en=>Fz c hq
theorem plain_7(c:Cx S)(hz:bs.length≤aB)(hr:d8 [] (bs.drop p)=some ([55],R))
  (hq:∀ p' t',bs.drop p'=R→Q (.ok (.pv (eH (.str "integer") (.int false 7) (.bool false false) (.int false 3)))) (dP m bs p' t' ra x y)):ao S (l+12) (fV 577) [.loc 5,.loc 2,u8 55,.loc 8] [] (dP m bs (p+1) (bP true) ra x y) Q:=
 bO c (F577_4 c) rfl rfl λA env fr en=>ve c (uu c (m:=m) hz hr (by decide) λp' t' tB=>regular_7 c (hq p' t' tB))
theorem pV{z:UInt8}(h:Let z){i:Int}(hi:i<97):decide ((z.toNat:Int)=i)=false:=decide_eq_false λq=>by have:=h.lo;exact absurd hi (gr.mpr (q▸this))
theorem Cq(c:Cx S){z:UInt8}(hz:bs.length≤aB)(hr:d8 [] (bs.drop p)=some (z::W,R))(hw:(z::W).length≤127)(hl:∀ i ∈ z::W,Let i)
  (hq:∀ p' t',bs.drop p'=R→Q (.ok (.pv (FO (z::W) (.bool true true)))) (dP m bs p' t' ra x y)):ao S (l+12) (fV 577) [.loc 5,.loc 2,u8 z,.loc 8] [] (dP m bs (p+1) (bP true) ra x y) Q:=by
 have q:=hl z (.head _)
 exact bO c (F577_4 c) rfl rfl λA env fr en=>ff (pV q (by decide)) (ff (pV q (by decide)) (ff (pV q (by decide)) (ff (pV q (by decide)) (ff (pV q (by decide)) (ff (pV q (by decide)) (ff (pV q (by decide)) (ve c (uu c (m:=m) hz hr (aa hw (by decide)) λp' t' tB=>DA c hw hl (hq p' t' tB)))))))))
theorem Ij(c:Cx S){z:UInt8}(hz:bs.length≤aB)(hr:d8 [] (bs.drop p)=some (z::W,R))(hw:127<(z::W).length)(MK:(z::W).length≤65535)(hl:∀ i ∈ z::W,Let i)
  (hq:∀ p' t',bs.drop p'=R→Q (.exc gj) (dP m bs p' t' ra x y)):ao S (l+12) (fV 577) [.loc 5,.loc 2,u8 z,.loc 8] [] (dP m bs (p+1) (bP true) ra x y) Q:=by
 have q:=hl z (.head _)
 exact bO c (F577_4 c) rfl rfl λA env fr en=>ff (pV q (by decide)) (ff (pV q (by decide)) (ff (pV q (by decide)) (ff (pV q (by decide)) (ff (pV q (by decide)) (ff (pV q (by decide)) (ff (pV q (by decide)) (ve c (uu c (m:=m) hz hr MK λp' t' tB=>DB c hw MK hl (hq p' t' tB)))))))))
end
end
inductive Tok | op | cl | jR | ab | sx | st | bo | bc | gS | row | gone | bad | long (n:Nat) (ex:Bool)
noncomputable def Tok.oct:Tok→List UInt8
 | .op=>[123] | .cl=>[125] | .jR=>[55] | .ab=>[97,98] | .sx=>[47,120] | .st=>[40,97,125,123,41] | .bo=>[91] | .bc=>[93]
 | .gS=>47::47::iS | .row=>47::47::lT | .gone=>47::47::qW | .bad=>47::47::oK
 | .long n true=>aI n 110 | .long n false=>47::aI n 110
noncomputable def QV:List (List UInt8):=[[32],[10],[13,10],[32,37,125,123,10],[9,0],[32,37,123,13]]
noncomputable def sep(k:Nat):List UInt8:=QV.getD k []
noncomputable abbrev TS:=List (Tok×Nat)
noncomputable def eU(ts:TS):List UInt8:=bA (motive:=λz_=>List UInt8) [] (λp z_ q=>p.1.oct++(sep p.2++q)) ts
noncomputable def Tok.good(t:Tok):Prop:=match t with | .long n _=>126≤n∧n≤129 | _=>True
structure LR(p:Tok×Nat):Prop where
 sep:p.2<6
 tok:p.1.good
noncomputable abbrev jF(ts:TS):Prop:=∀ p ∈ ts,LR p
noncomputable def Ru(x:UInt8):Bool:= !uT x&&(!decide ((x.toNat:Int)=37)&& !decide (x=10))
noncomputable def Hd(r:List UInt8):Prop:=match r with | []=>True | x::_=>Ru x=true
theorem gi{n:Nat}{r:List UInt8}(h:Hd r):cM (n+1) r=some r:=by
 cases r with
 | nil=>rfl
 | cons x r=>
  obtain⟨h1,h2⟩:=aj.mp (show(!uT x&&(!decide ((x.toNat:Int)=37)&& !decide (x=10)))=true from h)
  obtain⟨h2,h3⟩:=aj.mp h2
  show cond (decide ((x.toNat:Int)=37)) _ (cond (uT x) _ (some (x::r)))=_
  rw[(gO _).mp h1,(gO _).mp h2];rfl
theorem B_{r:List UInt8}(h:Hd r):zN r=r:=by
 cases r with
 | nil=>rfl
 | cons x r=>
  obtain⟨h1,h2⟩:=aj.mp (show(!uT x&&(!decide ((x.toNat:Int)=37)&& !decide (x=10)))=true from h)
  obtain⟨h2,h3⟩:=aj.mp h2
  exact if_neg (of_decide_eq_false ((gO _).mp h3))
theorem OM{k:Nat}(h:k<6):k=0∨k=1∨k=2∨k=3∨k=4∨k=5:=(show∀ k,k<6→(k=0∨k=1∨k=2∨k=3∨k=4∨k=5) by decide) k h
theorem t9{k:Nat}{r:List UInt8}(hk:k<6)(h:Hd r):cM 8 (sep k++r)=some r:=by
 rcases OM hk with rfl | rfl | rfl | rfl | rfl | rfl
 ·exact(show cM 8 (32::r)=cM 7 r from rfl).trans (gi h)
 ·exact(show cM 8 (10::r)=cM 7 r from rfl).trans (gi h)
 ·exact(show cM 8 (13::10::r)=cM 6 r from rfl).trans (gi h)
 ·exact(show cM 8 (32::37::125::123::10::r)=cM 6 r from rfl).trans (gi h)
 ·exact(show cM 8 (9::0::r)=cM 6 r from rfl).trans (gi h)
 ·refine(show cM 8 (32::37::123::13::r)=cM 6 (zN r) from rfl).trans ?_
  rw[B_ h];exact gi h
noncomputable def u0(k:Nat)(r:List UInt8):List UInt8:=match sep k++r with | []=>[] | b::s=>yH b s
theorem NV{k:Nat}{r:List UInt8}(hk:k<6)(h:Hd r):cM 8 (u0 k r)=some r:=by
 rcases OM hk with rfl | rfl | rfl | rfl | rfl | rfl
 ·exact gi h
 ·exact gi h
 ·exact gi h
 ·exact(show cM 8 (37::125::123::10::r)=cM 7 r from rfl).trans (gi h)
 ·exact(show cM 8 (0::r)=cM 7 r from rfl).trans (gi h)
 ·refine(show cM 8 (37::123::13::r)=cM 7 (zN r) from rfl).trans ?_
  rw[B_ h];exact gi h
theorem NW{k:Nat}{r acc:List UInt8}(hk:k<6):d8 acc (sep k++r)=some (acc,u0 k r):=by
 rcases OM hk with rfl | rfl | rfl | rfl | rfl | rfl <;> rfl
noncomputable def NN(x:UInt8):Bool:= !HC x&& !uT x
theorem gW{W r:List UInt8}{k:Nat}(hk:k<6)(h:∀ x ∈ W,NN x=true):∀ {acc:List UInt8},d8 acc (W++(sep k++r))=some (acc++W,u0 k r):=by
 induction W with
 | nil=>intro acc;rw[nM,dw];exact NW hk
 | cons x W ih=>
  intro acc
  obtain⟨h1,h2⟩:=aj.mp (show(!HC x&& !uT x)=true from h x (.head _))
  show cond (HC x) none (cond (uT x) _ (d8 (acc++[x]) (W++(sep k++r))))=_
  rw[(gO _).mp h1,(gO _).mp h2,ih λy hy=>h y (.tail _ hy),c_];rfl
theorem FU{t:Tok}(h:t.good):∃ x r,t.oct=x::r∧Ru x=true:=by
 cases t with
 | long n e=>
  obtain⟨m,rfl⟩:∃ m,n=m+1:=⟨n-1,by have:126≤n:=h.1;exact(iQ (aa (by decide) this)).symm⟩
  cases e with
  | true=>exact⟨110,aI m 110,rfl,by decide⟩
  | false=>exact⟨47,_,rfl,by decide⟩
 | _=>exact⟨_,_,rfl,by decide⟩
theorem sf{ts:TS}(h:jF ts):Hd (eU ts):=by
 cases ts with
 | nil=>trivial
 | cons p ts=>
  refine E2_2 (FU (h p (.head _)).tok) λx r e hx=>?_
  show Hd (p.1.oct++(sep p.2++eU ts))
  rw[e];exact hx
section
inductive LK | jR | gS | ab | sx | st | bo | bc | long (n:Nat) (ex:Bool)
inductive FF | nil | lf (r:FF) (q:LK) | row (r:FF) | pr (r:FF) (g:FF)
noncomputable def FF.len(f:FF):Nat:=FF.rec (motive:=λz_=>Nat) 0 (λz_ z_ n=>n+1) (λz_ n=>n+1) (λz_ z_ n z_=>n+1) f
noncomputable def FF.gf(f:FF):Bool:=FF.rec (motive:=λz_=>Bool) false (λz_ z_ b=>b) (λz_ z_=>true) (λz_ z_ b z_=>b) f
inductive Act | op | cl | lf (q:LK) | fault | gS | row | none (w:List UInt8)
noncomputable def Tok.act(t:Tok):Act:=match t with
 | .op=>.op | .cl=>.cl | .jR=>.lf .jR | .ab=>.lf .ab | .sx=>.lf .sx | .st=>.lf .st | .bo=>.lf .bo | .bc=>.lf .bc
 | .gS=>.gS | .row=>.row | .gone=>.none qW | .bad=>.none oK
 | .long n e=>cond (d9 127 n) .fault (.lf (.long n e))
inductive Out | top (f:FF) (r:TS) (as:List (List UInt8)) | err (x:List UInt8) (as:List (List UInt8)) | fin (as:List (List UInt8))
noncomputable def xA(q:List FF→List (List UInt8)→Out)(r:TS)(fs:List FF)(c:FF→FF)(as:List (List UInt8)):Out:=match fs with
 | []=>.top (c .nil) r as
 | f::fs=>q (c f::fs) as
noncomputable def stepI(most:Int)(gl:Bool)(a:Act)(r:TS)(q:List FF→List (List UInt8)→Out)(fs:List FF)(as:List (List UInt8)):Out:=match a with
 | .op=>q (.nil::fs) as
 | .cl=>match fs with
  | []=>.err DX as
  | f::fs=>cond (decide (most<f.len)) (.err gj as) (cond (gl&&f.gf) (.err Ac as) (xA q r fs (λr=>.pr r f) as))
 | .lf k=>xA q r fs (λr=>.lf r k) as
 | .fault=>.err gj as
 | .gS=>xA q r fs (λr=>.lf r .gS) (iS::as)
 | .row=>xA q r fs (λr=>.row r) (lT::as)
 | .none w=>.err qT (w::as)
noncomputable def fK(most:Int)(gl:Bool)(ts:TS):List FF→List (List UInt8)→Out:=bA (motive:=λz_=>List FF→List (List UInt8)→Out)
 (λfs as=>match fs with | []=>.fin as | _::_=>.err DX as) (λp r q=>stepI most gl p.1.act r q) ts
section
variable(rw:PV)(pk gl:Bool)
inductive rA:PV→LK→Prop
 | jR:rA (eH (.str "integer") (.int false 7) (.bool false false) (.int false 3)) .jR
 | gS {f:Bool}:rA (eH (.str "integer") (.int f 5) (.bool false false) (.int false 3)) .gS
 | ab:rA (FO [97,98] (.bool true true)) .ab
 | sx:rA (FO [120] (.bool true false)) .sx
 | st {i:Nat}{f:Bool}:rA (OR i [97,125,123] f gl) .st
 | bo:rA (FO [91] (.bool true true)) .bo
 | bc:rA (FO [93] (.bool true true)) .bc
 | long {n:Nat}{e:Bool}:n≤127→rA (FO (aI n 110) (.bool true e)) (.long n e)
inductive Tells:List PV→FF→List Nat→Prop
 | nil:Tells [] .nil []
 | lf {vs:List PV}{f:FF}{ns:List Nat}{v:PV}{q:LK}:Tells vs f ns→rA gl v q→Tells (v::vs) (.lf f q) ns
 | row {vs:List PV}{f:FF}{ns:List Nat}:Tells vs f ns→Tells (rw::vs) (.row f) ns
 | pr {vs ws:List PV}{f g:FF}{ns ms:List Nat}{t:au}{i:Nat}{fl:Bool}:Tells vs f ns→Tells ws g ms→Tells (Ig (some t) i ws.reverse fl gl pk::vs) (.pr f g) (ns++i::ms)
inductive D9:List (List PV)→List FF→List Nat→Prop
 | nil:D9 [] [] []
 | cons {rs:List (List PV)}{fs:List FF}{N ns:List Nat}{r:List PV}{f:FF}:D9 rs fs N→Tells rw pk gl r f ns→D9 (r::rs) (f::fs) (N++ns)
end
variable{rw:PV}{pk gl:Bool}
theorem Tells.len{vs:List PV}{f:FF}{ns:List Nat}(h:Tells rw pk gl vs f ns):vs.length=f.len:=by
 induction h with
 | nil=>rfl
 | lf _ _ ih=>exact congrArg (·+1) ih
 | row _ ih=>exact congrArg (·+1) ih
 | pr _ _ ih _=>exact congrArg (·+1) ih
theorem rA.loc{v:PV}{q:LK}(h:rA gl v q):Loc v (match q with | .st=> !gl | _=>false):=by
 cases h <;> first | exact .int | exact .name | exact .text
theorem K9{t:au}{i:Nat}{ws:List PV}{fl:Bool}:Loc (Ig (some t) i ws fl gl pk) (!gl):=by
 cases pk
 ·exact .row
 ·exact .pack
theorem Tells.loc(hrw:Loc rw true)(hg:gl=true){vs:List PV}{f:FF}{ns:List Nat}(h:Tells rw pk gl vs f ns):(∀ v ∈ vs,∃ b,Loc v b)∧(f.gf=false→∀ v ∈ vs,Loc v false)∧(f.gf=true→∃ v ∈ vs,Loc v true):=by
 have hg':(!gl)=false:=by rw[hg];rfl
 induction h with
 | nil=>exact⟨λz_ h=>(jd h),λz_ z_ h=>(jd h),λh=>(gy h)⟩
 | @lf vs f ns v q _ hl ih=>
  have l:Loc v false:=by
   have l:=hl.loc
   cases q with
   | st=>exact hg'▸l
   | _=>exact l
  refine A3 ih λi1 i2 i3=>?_
  exact⟨λz hz=>(ay.mp hz).elim (λe=>⟨_,e▸l⟩) (i1 z),λe z hz=>(ay.mp hz).elim (λe=>e▸l) (i2 e z),λe=>let⟨z,h1,h2⟩:=i3 e;⟨z,.tail _ h1,h2⟩⟩
 | row _ ih=>
  refine A3 ih λi1 i2 i3=>?_
  exact⟨λz hz=>(ay.mp hz).elim (λe=>⟨_,e▸hrw⟩) (i1 z),λh=>(nomatch h),λz_=>⟨_,.head _,hrw⟩⟩
 | @pr vs ws f g ns ms t i fl _ _ ih _=>
  have l:Loc (Ig (some t) i ws.reverse fl gl pk) false:=hg'▸K9
  refine A3 ih λi1 i2 i3=>?_
  exact⟨λz hz=>(ay.mp hz).elim (λe=>⟨_,e▸l⟩) (i1 z),λe z hz=>(ay.mp hz).elim (λe=>e▸l) (i2 e z),λe=>let⟨z,h1,h2⟩:=i3 e;⟨z,.tail _ h1,h2⟩⟩
structure u9(a b:Nat)(N:List Nat):Prop where
 nd:N.Nodup
 mem:∀ n ∈ N,a<n∧n≤b
theorem u9.up{a b b':Nat}{N:List Nat}(h:u9 a b N)(hb:b≤b'):u9 a b' N:=⟨h.nd,λn hn=>⟨(h.mem n hn).1,aa (h.mem n hn).2 hb⟩⟩
theorem u9.mid{a b:Nat}{N M:List Nat}(hab:a≤b)(h:u9 a b (N++M)):u9 a (b+1) (N++(b+1)::M):=by
 refine⟨(List.perm_middle.nodup_iff).mpr (bK.mpr ⟨λq=>?_,h.nd⟩),λn hn=>?_⟩
 ·have:=(h.mem _ q).2;exact Nat.not_succ_le_self _ this
 ·rcases ay.mp (List.perm_middle.mem_iff.mp hn) with e | q
  ·exact⟨e▸Nat.lt_succ_of_le hab,aQ e⟩
  ·have:=h.mem _ q;exact⟨this.1,bM this.2⟩
theorem u9.app{a b c:Nat}{N M:List Nat}(hab:a≤b)(hbc:b≤c)(h:u9 a b N)(k:u9 b c M):u9 a c (N++M):=by
 refine⟨List.nodup_append.mpr ⟨h.nd,k.nd,λx hx y hy e=>?_⟩,λn hn=>?_⟩
 ·have:=(h.mem x hx).2;have:=(k.mem y hy).1;exact absurd this (gb (e▸ ‹x≤b›))
 ·rcases bN.mp hn with q | q
  ·have:=h.mem n q;exact⟨this.1,aa this.2 hbc⟩
  ·have:=k.mem n q;exact⟨aY hab this.1,this.2⟩
end
section
open MineH (KK bg mA)
noncomputable def Act.item(a:Act)(as:List (List UInt8)):Option ((FF→FF)×List (List UInt8)):=match a with
 | .lf q=>some (λf=>.lf f q,as) | .gS=>some (λf=>.lf f .gS,iS::as) | .row=>some (λf=>.row f,lT::as) | _=>Option.none
noncomputable def Act.err(a:Act)(as:List (List UInt8)):Option (List UInt8×List (List UInt8)):=match a with
 | .fault=>some (gj,as) | .none w=>some (qT,w::as) | _=>Option.none
structure Mem.Up(m m':Mem):Prop where
 g:m'.g=m.g
 r:m'.r=m.r
 c:m.c≤m'.c
 n:m'.n≤m.n+1
 u:m'.u+m'.w≤m.u+m.w+1000
theorem Mem.Up.rfl{m:Mem}:m.Up m:=⟨Eq.refl _,Eq.refl _,bf _,cD _,by exact di (by decide)⟩
theorem Mem.yc.up{m m':Mem}{x:Int}(h:m.yc m' x)(hx:x≤1000):m.Up m':=⟨h.g,h.r,by have:=h.c;exact aa (cD _) (aQ this.symm),by have:=h.n;exact aQ this,by have:=h.u;exact bF (lC this) (jT hx _)⟩
noncomputable abbrev iy(as:List (List UInt8)):List PV:=as.map (PV.bytes false)
noncomputable abbrev fD(f:Bool):PV:=eH (.str "integer") (.int f 5) (.bool false false) (.int false 3)
section
variable{S:Sx}{l:Nat}{Q:Res MV→br→Prop}
variable{kr vr er ar:PV}{pk f5:Bool}{m:Mem}{bs r:List UInt8}{p k:Nat}{as as':List (List UInt8)}{sX:FF→FF}{t:Tok}
theorem MZ:Let 97:=⟨by decide,by decide,by decide⟩
theorem M0:Let 98:=⟨by decide,by decide,by decide⟩
theorem KQ:Let 110:=⟨by decide,by decide,by decide⟩
theorem Jo{n:Nat}:∀ z ∈ aI n (110:UInt8),Let z:=λz hz=>(rB hz)▸KQ
theorem Cv{n:Nat}:∀ z ∈ aI n (110:UInt8),NN z=true:=λz hz=>(rB hz)▸(by decide)
theorem Ng{x:UInt8}{n:Nat}(h:bs.drop p=aI (n+1) 110++r):bs.getD p 0≠47:=by
 rw[(fj (x:=110) (r:=aI n 110++r) h).2.1];decide
theorem zC(c:Cx S)(hz:bs.length≤aB)(ht:t.good)(hk:k<6)(h:bs.drop p=t.oct++(sep k++r))(hd:Hd r)(hi:t.act.item as=some (sX,as'))(ha:as.length≤60000)(hn:m.n≤60000)(hu:m.u+m.w≤16000000)
  (hq:∀ p' t' m' k v e a,cM 8 (bs.drop p')=some r→m.Up m'→(∀ vs f ns,Tells (eH kr vr er ar) pk m.g vs f ns→Tells (eH kr vr er ar) pk m.g (eH k v e a::vs) (sX f) ns)→Q (.ok (.pv (eH k v e a))) (dP m' bs p' t' (iy as') (fD f5) (eH kr vr er ar))):
  ao S (l+12) (fV 577) [.loc 5,.loc 2,u8 (bs.getD p 0),.loc 8] [] (dP m bs (p+1) (bP true) (iy as) (fD f5) (eH kr vr er ar)) Q:=by
 have sk:=t9 hk hd
 have sr:=NV hk hd
 have al:(iy as).length≤65535:=by rw[aC];exact aa ha (by decide)
 cases t with
 | op=>exact bR hi
 | cl=>exact bR hi
 | gone=>exact bR hi
 | bad=>exact bR hi
 | jR=>
  cases hi
  rw[(fj h).2.1]
  exact plain_7 c hz ((congrArg (d8 []) h).trans (gW hk (W:=[55]) (by decide))) λp' t' e=>hq p' t' m _ _ _ _ (by rw[e];exact sr) .rfl λz_ z_ z_ q=>.lf q .jR
 | ab=>
  cases hi
  rw[(fj h).2.1]
  exact Cq c hz ((congrArg (d8 []) h).trans (gW hk (W:=[97,98]) (by decide))) (by decide) (λi hi=>by rcases ay.mp hi with rfl | hi;exact MZ;rw[az.mp hi];exact M0)
   λp' t' e=>hq p' t' m _ _ _ _ (by rw[e];exact sr) .rfl λz_ z_ z_ q=>.lf q .ab
 | sx=>
  cases hi
  refine A3 (fj h) λh1 h2 h3=>?_
  rw[h2]
  refine i6 c (R:=u0 k r) (λl Q hq=>uc c hz (fj h3).1 (by rw[(fj h3).2.1];decide) ((congrArg (d8 []) h3).trans (gW hk (W:=[120]) (by decide))) (by decide) hq) ?_
  exact λp' t' e=>hq p' t' m _ _ _ _ (by rw[e];exact sr) .rfl λz_ z_ z_ q=>.lf q .sx
 | st=>
  cases hi
  refine A3 (fj h) λh1 h2 h3=>?_
  rw[h2]
  exact xy c hz (congrArg (qf []) h3) (by decide) (by show m.u+m.w+(3:Nat)≤_;exact bF (Int.add_le_add_right hu 3) (by decide)) hn λp' t' m' e hm=>hq p' t' m' _ _ _ _ (by rw[e];exact sk) (hm.up (by decide)) λz_ z_ z_ q=>.lf q (by rw[hm.g];exact .st)
 | bo=>
  cases hi
  refine A3 (fj h) λh1 h2 h3=>?_
  rw[h2]
  exact Bl c (hq _ _ m _ _ _ _ (by rw[h3];exact sk) .rfl λz_ z_ z_ q=>.lf q .bo)
 | bc=>
  cases hi
  refine A3 (fj h) λh1 h2 h3=>?_
  rw[h2]
  exact zB c (hq _ _ m _ _ _ _ (by rw[h3];exact sk) .rfl λz_ z_ z_ q=>.lf q .bc)
 | gS=>
  cases hi
  refine A3 (fj h) λh1 h2 h3=>?_
  refine A3 (fj h3) λh4 h5 h6=>?_
  rw[h2]
  refine i6 c (R:=u0 k r) (λl Q hq=>zP c hz h4 h5 ((congrArg (d8 []) h6).trans (gW hk (W:=iS) (by decide))) (by decide) (λl Q hq=>sQ c al (by decide) (by decide) rfl hq) hq) ?_
  exact λp' t' e=>hq p' t' m _ _ _ _ (by rw[e];exact sr) .rfl λz_ z_ z_ q=>.lf q .gS
 | row=>
  cases hi
  refine A3 (fj h) λh1 h2 h3=>?_
  refine A3 (fj h3) λh4 h5 h6=>?_
  rw[h2]
  refine i6 c (R:=u0 k r) (λl Q hq=>zP c hz h4 h5 ((congrArg (d8 []) h6).trans (gW hk (W:=lT) (by decide))) (by decide) (λl Q hq=>sQ c al (by decide) (by decide) rfl hq) hq) ?_
  exact λp' t' e=>hq p' t' m _ _ _ _ (by rw[e];exact sr) .rfl λz_ z_ z_ q=>.row q
 | long n ex=>
  refine fO λzz=>?_
  obtain⟨n,rfl⟩:∃ i,n=i+1:=⟨n-1,by have:126≤n:=ht.1;exact(iQ (aa (by decide) this)).symm⟩
  have e:d9 127 (n+1)=false:=by
   cases q:d9 127 (n+1) with
   | true=>have hi:Act.item (cond (d9 127 (n+1)) .fault (.lf (.long (n+1) ex))) as=_:=hi;rw[q] at hi;exact bR hi
   | false=>rfl
  have hi:Act.item (cond (d9 127 (n+1)) .fault (.lf (.long (n+1) ex))) as=_:=hi
  rw[e] at hi
  have le:n+1≤127:=Nat.le_of_not_lt λq=>by rw[bx (show 127+1≤n+1 from q) |> (show d9 127 (n+1)=true from ·)] at e;cases e
  cases hi
  refine zz ?_
  cases ex with
  | true=>
   rw[(fj (x:=110) (r:=aI n 110++(sep k++r)) h).2.1]
   exact Cq c (W:=aI n 110) hz ((congrArg (d8 []) h).trans (gW hk (W:=aI (n+1) 110) Cv)) (by rw[show(110::aI n (110:UInt8)).length=n+1 from congrArg (·+1) cL];exact le) (Jo (n:=n+1))
    λp' t' e=>hq p' t' m _ _ _ _ (by rw[e];exact sr) .rfl λz_ z_ z_ q=>.lf q (.long le)
  | false=>
   refine A3 (fj h) λh1 h2 h3=>?_
   rw[h2]
   refine i6 c (R:=u0 k r) (λl Q hq=>uc c hz (fj (x:=110) (r:=aI n 110++(sep k++r)) h3).1 (Ng (x:=0) h3) ((congrArg (d8 []) h3).trans (gW hk (W:=aI (n+1) 110) Cv)) (by rw[nM,cL];exact le) hq) ?_
   exact λp' t' e=>hq p' t' m _ _ _ _ (by rw[e];exact sr) .rfl λz_ z_ z_ q=>.lf q (.long le)
theorem F9(c:Cx S){x:List UInt8}(hz:bs.length≤aB)(ht:t.good)(hk:k<6)(h:bs.drop p=t.oct++(sep k++r))(hi:t.act.err as=some (x,as'))(ha:as.length≤60000)
  (hq:∀ p' t',Q (.exc x) (dP m bs p' t' (iy as') (fD f5) (eH kr vr er ar))):
  ao S (l+12) (fV 577) [.loc 5,.loc 2,u8 (bs.getD p 0),.loc 8] [] (dP m bs (p+1) (bP true) (iy as) (fD f5) (eH kr vr er ar)) Q:=by
 have al:(iy as).length≤65535:=by rw[aC];exact aa ha (by decide)
 cases t with
 | gone=>
  cases hi
  refine A3 (fj h) λh1 h2 h3=>?_
  refine A3 (fj h3) λh4 h5 h6=>?_
  rw[h2]
  exact kD c (R:=u0 k r) (λl Q hq=>zO c hz h4 h5 ((congrArg (d8 []) h6).trans (gW hk (W:=qW) (by decide))) (by decide) (λl Q hq=>wj c al (by decide) (by decide) rfl hq) hq) λp' t' z_=>hq p' t'
 | bad=>
  cases hi
  refine A3 (fj h) λh1 h2 h3=>?_
  refine A3 (fj h3) λh4 h5 h6=>?_
  rw[h2]
  exact kD c (R:=u0 k r) (λl Q hq=>zO c hz h4 h5 ((congrArg (d8 []) h6).trans (gW hk (W:=oK) (by decide))) (by decide) (λl Q hq=>yj c al hq) hq) λp' t' z_=>hq p' t'
 | long n ex=>
  refine fO λzz=>?_
  obtain⟨n,rfl⟩:∃ i,n=i+1:=⟨n-1,by have:126≤n:=ht.1;exact(iQ (aa (by decide) this)).symm⟩
  have lt:127<n+1:=by
   cases q:d9 127 (n+1) with
   | false=>have hi:Act.err (cond (d9 127 (n+1)) .fault (.lf (.long (n+1) ex))) as=_:=hi;rw[q] at hi;exact bR hi
   | true=>exact cB q
  have hi:Act.err (cond (d9 127 (n+1)) .fault (.lf (.long (n+1) ex))) as=_:=hi
  rw[show d9 127 (n+1)=true from bx lt] at hi
  have le:n+1≤129:=ht.2
  cases hi
  refine zz ?_
  cases ex with
  | true=>
   rw[(fj (x:=110) (r:=aI n 110++(sep k++r)) h).2.1]
   have e:(110::aI n (110:UInt8)).length=n+1:=congrArg (·+1) cL
   exact Ij c (W:=aI n 110) hz ((congrArg (d8 []) h).trans (gW hk (W:=aI (n+1) 110) Cv)) (by rw[e];exact lt) (by rw[e];exact aa le (by decide)) (Jo (n:=n+1)) λp' t' z_=>hq p' t'
  | false=>
   refine A3 (fj h) λh1 h2 h3=>?_
   rw[h2]
   refine kD c (R:=u0 k r) (λl Q hq=>BC c hz (fj (x:=110) (r:=aI n 110++(sep k++r)) h3).1 (Ng (x:=0) h3) ((congrArg (d8 []) h3).trans (gW hk (W:=aI (n+1) 110) Cv)) (by rw[nM,cL];exact lt) (by rw[nM,cL];exact aa le (by decide)) hq) λp' t' z_=>hq p' t'
 | _=>exact bR hi
end
end
section
open MineH (KK bg mA)
structure qk(most:Int)(gl:Bool)(m:Mem)(ts:TS)(as:List (List UInt8)):Prop where
 good:jF ts
 g:m.g=gl
 r:m.r=most
 as:as.length+ts.length≤60000
 n:m.n+ts.length≤60000
 u:m.u+m.w+1000*ts.length≤16000000
section
variable{rw:PV}{pk gl:Bool}{most:Int}{a:Nat}{out:Out}{bz:List (List PV)}{rev:List PV}{m m':Mem}{as as':List (List UInt8)}{t:Tok}{k:Nat}{r:TS}{fs:List FF}{N:List Nat}{sX:FF→FF}{v:PV}
theorem qk.R5(h:qk most gl m r as):as.length≤60000:=aa (aT _ _) h.as
theorem qk.nB(h:qk most gl m r as):m.n≤60000:=aa (aT _ _) h.n
theorem qk.uB(h:qk most gl m r as):m.u+m.w≤16000000:=bF (di (Int.mul_nonneg (by decide) (cu _))) h.u
theorem jx{a b c d n:Nat}(h:a+(b+1)≤n)(e:c≤a+1)(ed:d=c+b):d≤n:=ed▸aa (bD e b) (aa (aQ ((j3 a 1 b).trans (congrArg (a+ ·) (lF 1 b)))) h)
theorem qk.next(h:qk most gl m ((t,k)::r) as)(u:m.Up m')(ha:as'.length≤as.length+1):qk most gl m' r as':=
 ⟨λp hp=>h.good p (.tail _ hp),u.g.trans h.g,u.r.trans h.r,jx h.as ha rfl,jx h.n u.n rfl,by
  refine bF (Int.add_le_add_right u.u _) (bF (lC ?_) h.u)
  rw[bE,Int.natCast_add,Int.mul_add,Int.add_assoc,Int.add_comm (1000*(r.length:Int))];rfl⟩
variable(rw pk gl most a out) in
structure nZ(bz:List (List PV))(m:Mem)(as:List (List UInt8))(ts:TS)(fs:List FF)(N:List Nat):Prop where
 fit:qk most gl m ts as
 rd:fK most gl ts fs as=out
 st:D9 rw pk gl bz fs N
 NR:u9 a m.c N
 ac:a≤m.c
 sz:∀ rev ∈ bz,rev.length+ts.length≤100
 dp:bz.length+ts.length≤100
theorem nZ.Sh(h:nZ rw pk gl most a out bz m as r fs N):bz.length≤100:=aa (aT _ _) h.dp
theorem nZ.sz'(h:nZ rw pk gl most a out bz m as r fs N)(e:rev ∈ bz):rev.length≤100:=aa (aT _ _) (h.sz rev e)
theorem nZ.op(h:nZ rw pk gl most a out bz m as ((.op,k)::r) fs N):nZ rw pk gl most a out ([]::bz) m as r (.nil::fs) (N++[]):=by
 obtain⟨h1,h2,h3,h4,h5,h6,h7⟩:=h
 have l7:=jx h7 (bf _) rfl
 refine⟨h1.next .rfl (cD _),h2,.cons h3 .nil,by rw[dw];exact h4,h5,λz hz=>?_,l7⟩
 rcases ay.mp hz with e | hz
 ·rw[e];exact aa (bD (d7 _) _) l7
 ·exact jx (h6 z hz) (cD _) rfl
theorem vP(hi:t.act.item as=some (sX,as')):fK most gl ((t,k)::r) fs as=xA (fK most gl r) r fs sX as':=by
 show stepI most gl t.act r (fK most gl r) fs as=_
 generalize t.act=b at hi
 cases b <;> cases hi <;> rfl
theorem yR{b:Act}(hi:b.item as=some (sX,as')):as'.length≤as.length+1:=by
 cases b <;> cases hi <;> first | exact cD _ | exact bf _
theorem nZ.put{f:FF}{ns ns':List Nat}(h:nZ rw pk gl most a out ((rev)::bz) m as ((t,k)::r) (f::fs) (N++ns))(s:D9 rw pk gl bz fs N)(q:Tells rw pk gl (v::rev) (sX f) ns')(u:m.Up m')(ha:as'.length≤as.length+1)(hr:u9 a m'.c (N++ns'))
  (e:fK most gl r (sX f::fs) as'=out):nZ rw pk gl most a out ((v::rev)::bz) m' as' r (sX f::fs) (N++ns'):=by
 obtain⟨h1,h2,h3,h4,h5,h6,h7⟩:=h
 refine⟨h1.next u ha,e,.cons s q,hr,aa h5 u.c,λz hz=>?_,jx h7 (cD _) rfl⟩
 rcases ay.mp hz with e | hz
 ·rw[e];exact jx (h6 rev (.head _)) (bf _) rfl
 ·exact jx (h6 z (.tail _ hz)) (cD _) rfl
theorem nZ.item(h:nZ rw pk gl most a out (rev::bz) m as ((t,k)::r) fs N)(hi:t.act.item as=some (sX,as'))(u:m.Up m')(q:∀ vs f ns,Tells rw pk m.g vs f ns→Tells rw pk m.g (v::vs) (sX f) ns):∃ fs' N',nZ rw pk gl most a out ((v::rev)::bz) m' as' r fs' N':=by
 have h3:=h.st
 have hg:=h.fit.g
 subst hg
 cases h3 with
 | @cons rs fs N ns _ f s tl=>exact⟨_,_,h.put s (q _ _ _ tl) u (yR hi) (h.NR.up u.c) ((vP hi).symm.trans h.rd)⟩
theorem nZ.MR(h:nZ rw pk gl most a out [] m as ((t,k)::r) fs N)(hi:t.act.item as=some (sX,as'))(u:m.Up m')(q:∀ vs f ns,Tells rw pk m.g vs f ns→Tells rw pk m.g (v::vs) (sX f) ns):out= .top (sX .nil) r as'∧Tells rw pk gl [v] (sX .nil) []∧qk most gl m' r as'∧a≤m'.c:=by
 have h3:=h.st
 have hg:=h.fit.g
 subst hg
 cases h3 with
 | nil=>exact⟨h.rd.symm.trans (vP hi),q _ _ _ .nil,h.fit.next u (yR hi),aa h.ac u.c⟩
theorem nZ.err{x:List UInt8}(h:nZ rw pk gl most a out bz m as ((t,k)::r) fs N)(hi:t.act.err as=some (x,as')):out= .err x as':=by
 have e:stepI most gl t.act r (fK most gl r) fs as=out:=h.rd
 generalize t.act=b at hi e
 rw[←e]
 cases b <;> cases hi <;> rfl
theorem nZ.PE(h:nZ rw pk gl most a out [] m as [] fs N):out= .fin as:=by
 have e:=h.rd
 have h3:=h.st
 cases h3;exact e.symm
theorem nZ.PF(h:nZ rw pk gl most a out (rev::bz) m as [] fs N):out= .err DX as:=by
 have e:=h.rd
 have h3:=h.st
 cases h3;exact e.symm
theorem nZ.R9(h:nZ rw pk gl most a out [] m as ((.cl,k)::r) fs N):out= .err DX as:=by
 have e:=h.rd
 have h3:=h.st
 cases h3;exact e.symm
inductive Oz(rw:PV)(pk gl:Bool)(most:Int)(a:Nat)(out:Out)(rev:List PV)(bz:List (List PV))(m:Mem)(as:List (List UInt8))(r:TS):Prop
 | many:most<rev.length→out= .err gj as→Oz rw pk gl most a out rev bz m as r
 | loc:(rev.length:Int)≤most→gl=true→(∀ v ∈ rev,∃ b,Loc v b)→(∃ v ∈ rev,Loc v true)→out= .err Ac as→Oz rw pk gl most a out rev bz m as r
 | ok:(rev.length:Int)≤most→(gl=true→∀ v ∈ rev,Loc v false)→(∀ m' x t,m.yc m' x→x≤1000→match bz with
   | []=>∃ f,out= .top (.pr .nil f) r as∧(∃ ns,Tells rw pk gl [Ig (some t) (m.c+1) rev.reverse m'.fg m'.g pk] (.pr .nil f) ns∧u9 a m'.c ns)∧qk most gl m' r as∧a≤m'.c
   | Gk::bz=>∃ fs' N',nZ rw pk gl most a out ((Ig (some t) (m.c+1) rev.reverse m'.fg m'.g pk::Gk)::bz) m' as r fs' N')→Oz rw pk gl most a out rev bz m as r
theorem nZ.cl(hrw:Loc rw true)(h:nZ rw pk gl most a out (rev::bz) m as ((.cl,k)::r) fs N):Oz rw pk gl most a out rev bz m as r:=by
 have h3:=h.st
 have e:=h.rd
 have rg:=h.NR
 cases h3 with
 | @cons rs fs N ns _ f s tl=>
  have e:cond (decide (most<f.len)) (.err gj as) (cond (gl&&f.gf) (.err Ac as) (xA (fK most gl r) r fs (λr=>.pr r f) as))=out:=e
  have le:=tl.len
  by_cases h1:most<f.len
  ·rw[decide_eq_true h1] at e;exact .many (by rw[le];exact h1) e.symm
  rw[decide_eq_false h1] at e
  have h1:(rev.length:Int)≤most:=le▸gr.mp h1
  cases h2:gl&&f.gf with
  | true=>
   rw[h2] at e
   refine A2 (aj.mp h2) λg1 g2=>?_
   refine A3 (tl.loc hrw g1) λl1 l2 l3=>?_
   exact .loc h1 g1 l1 (l3 g2) e.symm
  | false=>
   rw[h2] at e
   have e:xA (fK most gl r) r fs (λr=>.pr r f) as=out:=e
   refine .ok h1 (λg1=>(tl.loc hrw g1).2.1 (by rw[g1] at h2;exact h2)) λm' x t hm hx=>?_
   have up:=hm.up hx
   have ec:m'.c=m.c+1:=hm.c
   rw[hm.g.trans h.fit.g]
   cases s with
   | nil=>exact⟨f,e.symm,⟨_,.pr .nil tl,by rw[ec];exact rg.mid h.ac⟩,h.fit.next up (cD _),aa h.ac up.c⟩
   | @cons rs fs N ms Gk f' s tl'=>
    have rg:u9 a m.c (N++(ms++ns)):=by rw[←c_];exact rg
    refine⟨.pr f' f::fs,N++(ms++(m.c+1)::ns),?_⟩
    have TX:u9 a m'.c (N++(ms++(m.c+1)::ns)):=by
     rw[ec, ←c_]
     rw[←c_] at rg
     exact rg.mid h.ac
    obtain⟨q1,q2,q3,q4,q5,q6,q7⟩:=h
    refine⟨q1.next up (cD _),e,.cons s (.pr tl' tl),TX,aa q5 up.c,λz hz=>?_,a_ (jx q7 (cD _) (Nat.succ_add _ _).symm)⟩
    rcases ay.mp hz with e | hz
    ·rw[e];exact jx (q6 Gk (.tail _ (.head _))) (bf _) rfl
    ·exact jx (q6 z (.tail _ (.tail _ hz))) (cD _) rfl
end
end
section
open MineH (KK bg mA)
theorem gE.stack{S:Sx}{f:Fx}{s:dO}{σ:St}{k:Nat}{Q:Res cj→St→Prop}(ho:cN σ.foot k=some (.list []))(h:gE S f s {σ with foot:=jV σ.foot k (.stack [])} Q):gE S f s σ Q:=
 ⟨λn rel=>h.run n (nu rel ho (o':=.stack []) (h':=n.h) (λz_ z_ e z_=>e) (λz_ o e=>⟨o,e⟩) (mS (fG rel ho).2)).2⟩
structure Q9 where
 p:Nat
 bz:List (List PV)
 m:Mem
 as:List (List UInt8)
 ts:TS
 fs:List FF
 N:List Nat
section
variable{S:Sx}{l:Nat}{Q:Res MV→br→Prop}
variable{kr vr er ar:PV}{fp pk gl f5:Bool}{most:Int}{m:Mem}{bs:List UInt8}{p:Nat}{as:List (List UInt8)}{ts:TS}{t:PV}
variable(kr vr er ar pk gl f5 most bs Q) in
noncomputable def L5(a:Nat)(out:Out):Prop:=match out with
 | .top f r as=>∀ k v e z p' t' m' ns,Tells (eH kr vr er ar) pk gl [eH k v e z] f ns→u9 a m'.c ns→a≤m'.c→cM 8 (bs.drop p')=some (eU r)→qk most gl m' r as→Q (.ok (.pv (eH k v e z))) (dP m' bs p' t' (iy as) (fD f5) (eH kr vr er ar))
 | .err x as=>∀ p' t' m',Q (.exc x) (dP m' bs p' t' (iy as) (fD f5) (eH kr vr er ar))
 | .fin as=>∀ p' t' m',Q (.ok (.pv .none)) (dP m' bs p' t' (iy as) (fD f5) (eH kr vr er ar))
variable(kr vr er ar pk gl most bs) in
structure Q8(a:Nat)(out:Out)(n:Nat)(s:Q9)(o:Option PV):Prop where
 j:nZ (eH kr vr er ar) pk gl most a out s.bz s.m s.as s.ts s.fs s.N
 n:n=s.ts.length
 here:gX (motive:=λz_=>Prop) (bs.drop s.p=eU s.ts∧s.ts≠[]) (λz_=>s.ts=[]) o
theorem FZ{ts:TS}(h:jF ts)(e:eU ts=[]):ts=[]:=by
 cases ts with
 | nil=>rfl
 | cons p ts=>
  refine E2_2 (FU (h p (.head _)).tok) λx r e' z_=>?_
  have e:p.1.oct++(sep p.2++eU ts)=[]:=e
  rw[e'] at e;cases e
theorem jW(c:Cx S){R:List UInt8}{n:Nat}(hz:bs.length≤aB)(hr:cM n (bs.drop p)=some R)(hq:∀ o p',gX (motive:=λz_=>Prop) (bs.drop p'=R∧p'<bs.length) (λz_=>R=[]) o→Q (.ok (Ia bs p' o)) (sF bs (H9 p' o) (H_ o))):
  ao S (l+7) (fV 437) [.loc 2] [] (sF bs p t) Q:=
 zI c hz hr (λp' hp hd=>hq none p' ⟨hd,hp⟩) λhn p' t' z_=>hq (some t') p' hn
variable(fp pk kr vr er ar f5 bs) in
noncomputable abbrev Of(s:Q9)(o:Option PV):St:=⟨[("self",.loc 5),("source",.loc 2),("is_packing",.pv (.bool fp pk)),("lookup",.loc 8),("opened",.loc 40),("octet",Ia bs s.p o)],(40,.stack s.bz)::dP s.m bs (H9 s.p o) (H_ o) (iy s.as) (fD f5) (eH kr vr er ar),[40,5,2,3,12,8,6,7],[]⟩
noncomputable def HP(v:PV):Bool:=@decide (Loc v true) (sE _)
theorem Fo{v:PV}(h:Loc v true):HP v=true:=@decide_eq_true _ (sE _) h
theorem HQ{v:PV}(h:∃ b,Loc v b):Loc v (HP v):=by
 by_cases q:Loc v true
 ·rw[Fo q];exact q
 ·refine E1_1 h λb h=>?_
  cases b with
  | true=>exact absurd h q
  | false=>rw[show HP v=false from@decide_eq_false _ (sE _) q];exact h
theorem n6{a b:Bool}(h:a=true)(k:b=true):(a&&b)=true:=by rw[h,k];rfl
theorem FW{t:Tok}{r:List UInt8}(ht:t.good)(hd:bs.drop p=t.oct++r)(h1:t≠ .op)(h2:t≠ .cl):decide (((bs.getD p 0).toNat:Int)=123)=false∧decide (((bs.getD p 0).toNat:Int)=125)=false:=by
 cases t with
 | op=>exact absurd rfl h1
 | cl=>exact absurd rfl h2
 | long n e=>
  obtain⟨n,rfl⟩:∃ i,n=i+1:=⟨n-1,(iQ (aa (by decide) (show 126≤n from ht.1))).symm⟩
  cases e with
  | true=>rw[(fj (x:=110) (r:=aI n 110++r) hd).2.1];exact⟨rfl,rfl⟩
  | false=>rw[(fj hd).2.1];exact⟨rfl,rfl⟩
 | _=>rw[(fj hd).2.1];exact⟨rfl,rfl⟩
theorem CP(t:Tok)(as:List (List UInt8)):t= .op∨t= .cl∨(∃ sX as',t.act.item as=some (sX,as'))∨∃ x as',t.act.err as=some (x,as'):=by
 cases t with
 | op=>exact .inl rfl
 | cl=>exact .inr (.inl rfl)
 | gone=>exact .inr (.inr (.inr ⟨_,_,rfl⟩))
 | bad=>exact .inr (.inr (.inr ⟨_,_,rfl⟩))
 | long n e=>
  refine .inr (.inr ?_)
  show(∃ sX as',Act.item (cond (d9 127 n) .fault (.lf (.long n e))) as=_)∨∃ x as',Act.err (cond (d9 127 n) .fault (.lf (.long n e))) as=_
  cases d9 127 n with
  | true=>exact .inr ⟨_,_,rfl⟩
  | false=>exact .inl ⟨_,_,rfl⟩
 | _=>exact .inr (.inr (.inl ⟨_,_,rfl⟩))
theorem nZ.here{kr vr er ar:PV}{a:Nat}{out:Out}{bz:List (List PV)}{fs:List FF}{N:List Nat}{r:TS}{o:Option PV}(j:nZ (eH kr vr er ar) pk gl most a out bz m as r fs N)(ho:gX (motive:=λz_=>Prop) (bs.drop p=eU r∧p<bs.length) (λz_=>eU r=[]) o):Q8 kr vr er ar pk gl most bs a out r.length ⟨p,bz,m,as,r,fs,N⟩ o:=by
 refine⟨j,rfl,?_⟩
 cases o with
 | none=>exact⟨ho.1,λe=>by have h1:=ho.2;have h:=ho.1;rw[show r=[] from e] at h;exact absurd h1 (gb (List.drop_eq_nil_iff.mp h))⟩
 | some t=>exact FZ j.fit.good ho
theorem Lq(c:Cx S)(hz:bs.length≤aB)(hrw:Loc (eH kr vr er ar) true){a:Nat}{out:Out}(j:nZ (eH kr vr er ar) pk gl most a out [] m as ts [] [])(yO:cM 8 (bs.drop p)=some (eU ts))(hq:L5 Q kr vr er ar pk gl f5 most bs a out):
  ao S (l+14) (fV 585) [.loc 5,.loc 2,.pv (.bool fp pk),.loc 8] [] (dP m bs p t (iy as) (fD f5) (eH kr vr er ar)) Q:=by
 refine bO c (F585_4 c) rfl rfl λA env fr en=>?_
 intro f_ K_
 refine jW c hz yO λo p' ho=>gE.stack (k:=40) rfl ?_
 refine gE.sub (σ':=Of kr vr er ar fp pk f5 bs ⟨p',[],m,as,ts,[],[]⟩ o) ?_ ⟨[],_,rfl,rfl⟩
 refine sC c en 35 (λz_ s o=>Of kr vr er ar fp pk f5 bs s o) (Q8 kr vr er ar pk gl most bs a out) (n:=ts.length) (p:=⟨p',[],m,as,ts,[],[]⟩) (o:=o) (j.here ho) (λn s h=>?_) λn s t h=>?_
 ·intro L_ T_
  obtain⟨p,bz,m,as,ts,fs,N⟩:=s
  obtain⟨j,hn,hd,hne⟩:=h
  cases ts with
  | nil=>exact absurd rfl hne
  | cons tk r=>
  obtain⟨t,k⟩:=tk
  have j:nZ (eH kr vr er ar) pk gl most a out bz m as ((t,k)::r) fs N:=j
  have gd:=j.fit.good _ (.head _)
  have a1:=j.fit.R5
  have a2:=j.fit.nB
  have a3:=j.fit.uB
  have a4:bz.length≤65535:=aa j.Sh (by decide)
  have hr:=sf λp hp=>j.fit.good p (.tail _ hp)
  have hlt:r.length<n:=by rw[hn];exact f9 _
  have hd:bs.drop p=t.oct++(sep k++eU r):=hd
  rcases CP t as with rfl | rfl | ⟨sX,as',e⟩ | ⟨x,as',e⟩
  ·refine A3 (fj hd) λh1 h2 h3=>?_
   exact lq (decide_eq_true (by rw[h2];rfl)) (aR (cA a4) (jW c hz (by rw[h3];exact t9 gd.sep hr) λo p' ho=>uo _ ⟨p',[]::bz,m,as,r,.nil::fs,N++[]⟩ o [("done",.pv .none)] rfl rfl ⟨j.op.here ho,hlt⟩))
  ·refine A3 (fj hd) λh1 h2 h3=>?_
   have i1:decide (((bs.getD p 0).toNat:Int)=123)=false:=by rw[h2];rfl
   have i2:decide (((bs.getD p 0).toNat:Int)=125)=true:=by rw[h2];rfl
   have sk:cM 8 (bs.drop (p+1))=some (eU r):=by rw[h3];exact t9 gd.sep hr
   have sz:=cA a4
   cases bz with
   | nil=>
    rw[j.R9] at hq
    exact ff i1 (lq i2 (o6 c en rfl (hq (p+1) (bP true) m)))
   | cons rev bz=>
    have l1:=j.sz' (.head _)
    have l2:rev.reverse.length≤60000:=by rw[av];exact aa l1 (by decide)
    have hg:=j.fit.g
    have sz:=cA (a_ a4)
    cases j.cl hrw with
    | many g e=>
     rw[e] at hq
     exact ff i1 (lq i2 (aR sz (tY c (m:=m) l2 (by rw[j.fit.r,av];exact g) (hq (p+1) (bP true) m))))
    | loc g g1 g2 g3 e=>
     rw[e] at hq
     exact ff i1 (lq i2 (aR sz (rP c (m:=m) HP l2 (by rw[j.fit.r,av];exact g) (hg.trans g1) (λv hv=>HQ (g2 v (cI.mp hv)))
      (by obtain⟨v,h1,h2⟩:=g3;exact dG.mpr ⟨v,cI.mpr h1,Fo h2⟩) (hq (p+1) (bP true) m))))
    | ok g g1 g2=>
     have hv:m.g=true→∀ v ∈ rev.reverse,Loc v false:=λq v hv=>g1 (hg.symm.trans q) v (cI.mp hv)
     have hr':(rev.reverse.length:Int)≤m.r:=by rw[j.fit.r,av];exact g
     have hx:(8:Int)*rev.reverse.length≤800:=by rw[av];exact Int.mul_le_mul_of_nonneg_left (iN.mpr l1) (by decide)
     have hc:m.u+m.w+8*rev.reverse.length≤16777216:=bF (Int.add_le_add a3 hx) (by decide)
     have g2:=λm' t hm=>g2 m' _ t hm (bF hx (by decide))
     cases bz with
     | nil=>
      exact ff i1 (lq i2 (aR sz (tX c (m:=m) l2 hr' hc a2 hv λm' hm t=>by
       refine E1_4 (g2 m' t hm) λf e1 Ow e4 e5=>?_
       refine E1_2 Ow λns e2 e3=>?_
       rw[e1] at hq
       exact hq _ _ _ _ (p+1) (bP true) m' ns e2 e3 e5 sk e4)))
     | cons Gk bz=>
      have Oc:=n6 (cA (aa (j.sz' (.tail _ (.head _))) (by decide))) (cA (a_ (a_ a4)))
      exact ff i1 (lq i2 (aR sz (tX c (m:=m) l2 hr' hc a2 hv λm' hm t=>aR Oc (jW c hz sk λo p' ho=>by
       refine E2_1 (g2 m' t hm) λfs' N' g3=>?_
       exact uo _ ⟨p',(Ig (some t) (m.c+1) rev.reverse m'.fg m'.g pk::Gk)::bz,m',as,r,fs',N'⟩ o [("done",.pv (Ig (some t) (m.c+1) rev.reverse m'.fg m'.g pk))] rfl rfl ⟨g3.here ho,hlt⟩))))
  ·obtain⟨i1,i2⟩:=FW gd.tok hd (by rintro rfl;exact bR e) (by rintro rfl;exact bR e)
   cases bz with
   | nil=>
    exact ff i1 (ff i2 (zC (pk:=pk) c hz gd.tok gd.sep hd hr e a1 a2 a3 λp' t' m' kk v z a sk up q=>by
     refine A4 (j.MR e up q) λe1 e2 e3 e4=>?_
     rw[e1] at hq
     exact hq _ _ _ _ p' t' m' _ e2 ⟨jA,λz_ h=>(jd h)⟩ e4 sk e3))
   | cons rev bz=>
    have Oc:=n6 (cA (aa (j.sz' (.head _)) (by decide))) (cA (a_ a4))
    exact ff i1 (ff i2 (zC (pk:=pk) c hz gd.tok gd.sep hd hr e a1 a2 a3 λp' t' m' kk v z a sk up q=>aR Oc (jW c hz sk λo p' ho=>by
     refine E2_1 (j.item e up q) λfs' N' g3=>?_
     exact uo _ ⟨p',(eH kk v z a::rev)::bz,m',as',r,fs',N'⟩ o [("done",.pv (eH kk v z a))] rfl rfl ⟨g3.here ho,hlt⟩)))
  ·obtain⟨i1,i2⟩:=FW gd.tok hd (by rintro rfl;exact bR e) (by rintro rfl;exact bR e)
   rw[j.err e] at hq
   exact ff i1 (ff i2 (F9 c hz gd.tok gd.sep hd e a1 λp' t'=>hq p' t' m))
 ·intro L_ T_
  obtain⟨p,bz,m,as,ts,fs,N⟩:=s
  obtain⟨j,hn,ht⟩:=h
  obtain rfl:ts=[]:=ht
  cases bz with
  | nil=>
   rw[j.PE] at hq
   exact hq p t m
  | cons rev bz=>
   rw[j.PF] at hq
   exact o6 c en rfl (hq p t m)
theorem xX(c:Cx S)(hz:bs.length≤aB)(hrw:Loc (eH kr vr er ar) true)(hf:qk most gl m ts as)(yO:cM 8 (bs.drop p)=some (eU ts))(hl:ts.length≤100)(hq:L5 Q kr vr er ar pk gl f5 most bs m.c (fK most gl ts [] as)):
  ao S (l+14) (fV 585) [.loc 5,.loc 2,.pv (.bool fp pk),.loc 8] [] (dP m bs p t (iy as) (fD f5) (eH kr vr er ar)) Q:=by
 have j:nZ (eH kr vr er ar) pk gl most m.c (fK most gl ts [] as) [] m as ts [] []:=⟨hf,rfl,.nil,⟨jA,λz_ h=>(jd h)⟩,bf _,λz_ h=>(jd h),aa (aQ (eG _)) hl⟩
 exact Lq c hz hrw j yO hq
end
end
section
open MineH (KK bg mA)
noncomputable abbrev iR:=List (FF×Nat)
noncomputable abbrev Rd:=iR×List (List UInt8)×Option (List UInt8)
noncomputable def xB(q:iR→List FF→List (List UInt8)→Rd)(bh:iR)(fs:List FF)(c:FF→FF)(as:List (List UInt8)):Rd:=match fs with
 | []=>q ((c .nil,as.length)::bh) [] as
 | f::fs=>q bh (c f::fs) as
noncomputable def zU(most:Int)(gl:Bool)(a:Act)(q:iR→List FF→List (List UInt8)→Rd)(bh:iR)(fs:List FF)(as:List (List UInt8)):Rd:=match a with
 | .op=>q bh (.nil::fs) as
 | .cl=>match fs with
  | []=>(bh,as,some DX)
  | f::fs=>cond (decide (most<f.len)) (bh,as,some gj) (cond (gl&&f.gf) (bh,as,some Ac) (xB q bh fs (λr=>.pr r f) as))
 | .lf k=>xB q bh fs (λr=>.lf r k) as
 | .fault=>(bh,as,some gj)
 | .gS=>xB q bh fs (λr=>.lf r .gS) (iS::as)
 | .row=>xB q bh fs (λr=>.row r) (lT::as)
 | .none w=>(bh,w::as,some qT)
noncomputable def dN(most:Int)(gl:Bool)(ts:TS):iR→List FF→List (List UInt8)→Rd:=bA (motive:=λz_=>iR→List FF→List (List UInt8)→Rd)
 (λbh fs as=>match fs with | []=>(bh,as,none) | _::_=>(bh,as,some DX)) (λp r q=>zU most gl p.1.act q) ts
noncomputable def F5(most:Int)(gl:Bool)(bh:iR)(o:Out):Rd:=match o with
 | .top f r as=>dN most gl r ((f,as.length)::bh) [] as
 | .err x as=>(bh,as,some x)
 | .fin as=>(bh,as,none)
theorem xF{most:Int}{gl:Bool}{bh:iR}(ts:TS):∀ {fs:List FF}{as:List (List UInt8)},dN most gl ts bh fs as=F5 most gl bh (fK most gl ts fs as):=by
 induction ts with
 | nil=>intro fs as;cases fs <;> rfl
 | cons p r ih=>
  intro fs as
  have put:∀ fs c as,xB (dN most gl r) bh fs c as=F5 most gl bh (xA (fK most gl r) r fs c as):=λfs c as=>by
   cases fs with
   | nil=>rfl
   | cons f fs=>exact ih
  show zU most gl p.1.act (dN most gl r) bh fs as=F5 most gl bh (stepI most gl p.1.act r (fK most gl r) fs as)
  cases p.1.act with
  | op=>exact ih
  | lf k=>exact put fs (λr=>.lf r k) as
  | gS=>exact put fs (λr=>.lf r .gS) (iS::as)
  | row=>exact put fs (λr=>.row r) (lT::as)
  | fault=>rfl
  | none w=>rfl
  | cl=>
   cases fs with
   | nil=>rfl
   | cons f fs=>
    show cond (decide (most<f.len)) _ _=F5 most gl bh (cond (decide (most<f.len)) _ _)
    cases decide (most<f.len) with
    | true=>rfl
    | false=>
     show cond (gl&&f.gf) _ _=F5 most gl bh (cond (gl&&f.gf) _ _)
     cases gl&&f.gf with
     | true=>rfl
     | false=>exact put fs (λr=>.pr r f) as
theorem zH{most:Int}{gl:Bool}{f:FF}{r:TS}{as':List (List UInt8)}(ts:TS):∀ {fs:List FF}{as:List (List UInt8)},fK most gl ts fs as= .top f r as'→r.length<ts.length:=by
 induction ts with
 | nil=>intro fs as h;cases fs <;> cases h
 | cons p s ih=>
  intro fs as h
  have put:∀ fs c as,xA (fK most gl s) s fs c as= .top f r as'→r.length<s.length+1:=λfs c as h=>by
   cases fs with
   | nil=>cases h;exact f9 _
   | cons g fs=>exact Nat.lt_succ_of_lt (ih h)
  have h:stepI most gl p.1.act s (fK most gl s) fs as= .top f r as':=h
  show r.length<s.length+1
  revert h
  cases p.1.act with
  | op=>exact λh=>Nat.lt_succ_of_lt (ih h)
  | lf k=>exact put fs (λr=>.lf r k) as
  | gS=>exact put fs (λr=>.lf r .gS) (iS::as)
  | row=>exact put fs (λr=>.row r) (lT::as)
  | fault=>exact λh=>nomatch h
  | none w=>exact λh=>nomatch h
  | cl=>
   cases fs with
   | nil=>exact λh=>nomatch h
   | cons g fs=>
    show cond (decide (most<g.len)) _ _=_→_
    cases decide (most<g.len) with
    | true=>exact λh=>nomatch h
    | false=>
     show cond (gl&&g.gf) _ _=_→_
     cases gl&&g.gf with
     | true=>exact λh=>nomatch h
     | false=>exact put fs (λr=>.pr r g) as
inductive pC(rw:PV)(pk gl:Bool):List PV→iR→Prop
 | nil:pC rw pk gl [] []
 | cons {vs:List PV}{ts:iR}{v:PV}{f:FF}{n:Nat}{ns:List Nat}:pC rw pk gl vs ts→Tells rw pk gl [v] f ns→(∀ m ∈ ns,m≠1)→pC rw pk gl (v::vs) ((f,n)::ts)
theorem pC.len{rw:PV}{pk gl:Bool}{vs:List PV}{ts:iR}(h:pC rw pk gl vs ts):vs.length=ts.length:=by
 induction h with
 | nil=>rfl
 | cons _ _ _ ih=>exact congrArg (·+1) ih
section
variable{S:Sx}{l:Nat}{Q:Res MV→br→Prop}
variable{kr vr er ar:PV}{fp pk gl f5:Bool}{most:Int}{m:Mem}{bs:List UInt8}{p:Nat}{as:List (List UInt8)}{ts:TS}{t:PV}
theorem IJ(c:Cx S)(hz:bs.length≤aB)(hrw:Loc (eH kr vr er ar) true)(hf:qk most gl m ts as)(yO:cM 8 (bs.drop p)=some (eU ts))(hl:ts.length≤100)
  (htop:∀ f r as' k v e z p' t' m' ns,fK most gl ts [] as= .top f r as'→Tells (eH kr vr er ar) pk gl [eH k v e z] f ns→u9 m.c m'.c ns→m.c≤m'.c→cM 8 (bs.drop p')=some (eU r)→qk most gl m' r as'→Q (.ok (.pv (eH k v e z))) (dP m' bs p' t' (iy as') (fD f5) (eH kr vr er ar)))
  (AL:∀ x as' p' t' m',fK most gl ts [] as= .err x as'→Q (.exc x) (dP m' bs p' t' (iy as') (fD f5) (eH kr vr er ar)))
  (EY:∀ as' p' t' m',fK most gl ts [] as= .fin as'→Q (.ok (.pv .none)) (dP m' bs p' t' (iy as') (fD f5) (eH kr vr er ar))):
  ao S (l+14) (fV 585) [.loc 5,.loc 2,.pv (.bool fp pk),.loc 8] [] (dP m bs p t (iy as) (fD f5) (eH kr vr er ar)) Q:=by
 refine xX c hz hrw hf yO hl ?_
 cases e:fK most gl ts [] as with
 | top f r as'=>exact λk v e' z p' t' m' ns h1 h2 h3 h4 h5=>htop f r as' k v e' z p' t' m' ns e h1 h2 h3 h4 h5
 | err x as'=>exact λp' t' m'=>AL x as' p' t' m' e
 | fin as'=>exact λp' t' m'=>EY as' p' t' m' e
structure O7 where
 p:Nat
 t:PV
 m:Mem
 as:List (List UInt8)
 ts:TS
 rev:List PV
 k:PV
 v:PV
 e:PV
 z:PV
noncomputable abbrev dV(s:O7)(o:Option PV):MV:=gX (motive:=λz_=>MV) (.pv (eH s.k s.v s.e s.z)) (λz_=>.pv .none) o
variable(kr vr er ar pk gl most bs) in
noncomputable def Q7(R:Rd)(bh:iR)(n:Nat)(s:O7)(o:Option PV):Prop:=gX (motive:=λz_=>Prop) (∃ f ns,Tells (eH kr vr er ar) pk gl [eH s.k s.v s.e s.z] f ns∧(∀ m ∈ ns,m≠1)∧1≤s.m.c∧qk most gl s.m s.ts s.as∧cM 8 (bs.drop s.p)=some (eU s.ts)∧s.ts.length<n∧dN most gl s.ts ((f,s.as.length)::bh) [] s.as=R)
 (λz_=>R=(bh,s.as,none)) o
theorem CL(c:Cx S)(hz:bs.length≤aB)(hrw:Loc (eH kr vr er ar) true){R:Rd}{bh:iR}(hc:1≤m.c)(hf:qk most gl m ts as)(yO:cM 8 (bs.drop p)=some (eU ts))(hl:ts.length≤100)(e0:dN most gl ts bh [] as=R)
  (hq:∀ s o,Q7 kr vr er ar pk gl most bs R bh ts.length s o→Q (.ok (dV s o)) (dP s.m bs s.p s.t (iy s.as) (fD f5) (eH kr vr er ar)))
  (AL:∀ x bh as' p' t' m',R=(bh,as',some x)→Q (.exc x) (dP m' bs p' t' (iy as') (fD f5) (eH kr vr er ar))):
  ao S (l+14) (fV 585) [.loc 5,.loc 2,.pv (.bool fp pk),.loc 8] [] (dP m bs p t (iy as) (fD f5) (eH kr vr er ar)) Q:=by
 rw[xF] at e0
 refine IJ c hz hrw hf yO hl ?_ ?_ ?_
 ·intro f r as' k v e z p' t' m' ns e1 h1 h2 h3 h4 h5
  rw[e1] at e0
  exact hq ⟨p',t',m',as',r,[],k,v,e,z⟩ none ⟨f,ns,h1,λx hx=>by have:=(h2.mem x hx).1;exact oG (aY hc this),aa hc h3,h5,h4,zH ts e1,e0⟩
 ·intro x as' p' t' m' e
  rw[e] at e0
  exact AL x bh as' p' t' m' e0.symm
 ·intro as' p' t' m' e
  rw[e] at e0
  exact hq ⟨p',t',m',as',[],[],.none,.none,.none,.none⟩ (some .none) e0.symm
variable(kr vr er ar fp pk f5 bs) in
noncomputable abbrev Oe(s:O7)(o:Option PV):St:=⟨[("self",.loc 5),("source",.loc 2),("is_packing",.pv (.bool fp pk)),("lookup",.loc 8),("found",.loc 40),("done",dV s o)],(40,.list s.rev)::dP s.m bs s.p s.t (iy s.as) (fD f5) (eH kr vr er ar),[40,5,2,3,12,8,6,7],[]⟩
theorem CK(c:Cx S)(hc:1≤m.c)(hz:bs.length≤aB)(hrw:Loc (eH kr vr er ar) true)(hf:qk most gl m ts as)(yO:cM 8 (bs.drop p)=some (eU ts))(hl:ts.length≤100)
  (hok:∀ vs bh as' p' t' m',dN most gl ts [] [] as=(bh,as',none)→pC (eH kr vr er ar) pk gl vs bh→Q (.ok (.pv (.list vs.reverse))) (dP m' bs p' t' (iy as') (fD f5) (eH kr vr er ar)))
  (AL:∀ x bh as' p' t' m',dN most gl ts [] [] as=(bh,as',some x)→Q (.exc x) (dP m' bs p' t' (iy as') (fD f5) (eH kr vr er ar))):
  ao S (l+16) (fV 593) [.loc 5,.loc 2,.pv (.bool fp pk),.loc 8] [] (dP m bs p t (iy as) (fD f5) (eH kr vr er ar)) Q:=by
 generalize e0:dN most gl ts [] [] as=R at hok AL
 refine bO c (F593_4 c) rfl rfl λA env fr en=>?_
 refine CL c (m:=m) (as:=as) (p:=p) (t:=t) (pk:=pk) (fp:=fp) (f5:=f5) hz hrw hc hf yO hl e0 ?_ AL
 intro s o hs
 refine gE.sub (σ':=Oe kr vr er ar fp pk f5 bs {s with rev:=[]} o) ?_ ⟨[],_,rfl,by kernel_rfl⟩
 refine sC c en 35 (λz_ s o=>Oe kr vr er ar fp pk f5 bs s o) (λn s o=>∃ bh,pC (eH kr vr er ar) pk gl s.rev bh∧Q7 kr vr er ar pk gl most bs R bh n s o∧s.rev.length+n≤200∧n≤100) (n:=ts.length) (p:={s with rev:=[]}) (o:=o) ⟨[],.nil,hs,by show 0+ts.length≤200;exact aa (aQ (eG _)) (aa hl (by decide)),hl⟩ (λn s h=>?_) λn s t h=>?_
 ·refine E1_4 h λbh h2 Ow hsz hn=>?_
  refine E2_7 Ow λf ns h1 hn1 hc hf yO lt e0=>?_
  refine aR (cA (show s.rev.length≤65535 by exact aa (aa (aT _ _) hsz) (by decide))) ?_
  refine CL c (m:=s.m) (as:=s.as) (p:=s.p) (t:=s.t) (pk:=pk) (fp:=fp) (f5:=f5) hz hrw hc hf yO (aa (eB lt) hn) e0 ?_ AL
  intro s' o hs
  exact⟨s.ts.length,{s' with rev:=eH s.k s.v s.e s.z::s.rev},o,⟨[],_,rfl,by kernel_rfl⟩,⟨_,.cons h2 h1 hn1,hs,by show s.rev.length+1+s.ts.length≤200;exact aa (aQ (cY _ _)) (aa (bw lt _) hsz),by exact aa (eB lt) hn⟩,lt⟩
 ·refine E1_4 h λbh h1 h2 z_ z_=>?_
  exact hok _ _ _ s.p s.t s.m h2 h1
end
end
section
set_option tactic.hygienic true
open MineH (KK bg mA)
section
variable{S:Sx}{l:Nat}{Q:Res MV→br→Prop}
noncomputable abbrev D0(cs:List Int)(a:Nat):br:=[(1,.ja [("cells",.list (cs.map (PV.int false))),("at",.int false a)])]
noncomputable def gw(cs:List Int)(a:Nat)(b:Int):Int:=cond (decide ((a:Int)<cs.length)) ((cs.getD a 0).fmod b) ((3*(a:Int)+2).fmod b)
theorem Lk{n:Nat}(h:n≤65535):(lB 3&&lB (n:Int))=true:=by
 simp only[lB]
 rw[bx (show(n:Int).natAbs≤1099511627776 by exact(show n≤1099511627776 from aa h (by decide)))];rfl
theorem lH(c:Cx S){cs:List Int}{a:Nat}{f:Bool}{b:Int}(hb:0<b)(hz:cs.length≤60)(ha:a≤60000)(hq:Q (.ok (iV (gw cs a b))) (D0 cs (a+1))):ao S (l+1) (fV 966) [.loc 1,.pv (.int f b)] [] (D0 cs a) Q:=by
 have hb':decide (0<b)=true:=decide_eq_true hb
 refine ao.flag (bO c (F966_2 c) rfl rfl λA env fr en=>?_)
 refine aR (cA (by rw[aC];exact aa hz (by decide))) (iH (λh=>?_) λh=>?_)
 ·have h:decide ((a:Int)<(cs.map (PV.int false)).length)=true:=h
  rw[aC] at h
  have hl:a<cs.length:=by have:=of_decide_eq_true h;exact fT.mp this
  have e:cs[a]? =some (cs.getD a 0):=by rw[gu,cX hl];rfl
  have e2:(cs.map (PV.int false))[(a:Int).toNat]? =some (.int false (cs.getD a 0)):=by rw[show(a:Int).toNat=a by exact rfl,fH,e];rfl
  unfold gw at hq
  rw[h] at hq
  exact aR (n6 (decide_eq_true (cu _)) (cA (by rw[aC];exact aa hz (by decide)))) (bq _ (bH e2 (aR hb' hq)))
 ·have h:decide ((a:Int)<(cs.map (PV.int false)).length)=false:=h
  rw[aC] at h
  unfold gw at hq
  rw[h] at hq
  exact aR (Lk (aa ha (by decide))) (aR hb' hq)
end
end
section
open MineH (KK bg mA)
section
variable{S:Sx}{l:Nat}{Q:Res MV→br→Prop}
theorem blt_false{a b:Nat}(h:b≤a):d9 a b=false:=by
 cases q:d9 a b with
 | false=>rfl
 | true=>have:=cB q;exact absurd (aa this h) (Nat.not_succ_le_self _)
theorem jU{cs:List Int}{a:Nat}{b:Int}(hb:0<b):0≤gw cs a b∧gw cs a b<b:=by
 unfold gw
 cases decide ((a:Int)<cs.length) with
 | true=>exact⟨Int.fmod_nonneg_of_pos _ hb,Int.fmod_lt_of_pos _ hb⟩
 | false=>exact⟨Int.fmod_nonneg_of_pos _ hb,Int.fmod_lt_of_pos _ hb⟩
noncomputable def nP(q:LK):PV:=match q with
 | .jR=>.tup [.str "integer",.int true 7,.bool true false,.int true 3]
 | .gS=>.tup [.str "integer",.int true 5,.bool true false,.int true 3]
 | .ab=>.tup [.str "name",.bytes true [97,98],.bool true true,.int true 3]
 | .sx=>.tup [.str "name",.bytes true [120],.bool true false,.int true 3]
 | .st=>.tup [.str "string",.bytes true [97,125,123],.bool true false,.int true 3]
 | .bo=>.tup [.str "name",.bytes true [91],.bool true true,.int true 3]
 | .bc=>.tup [.str "name",.bytes true [93],.bool true true,.int true 3]
 | .long n e=>.tup [.str "name",.bytes false (aI n 110),.bool false e,.int true 3]
noncomputable def kL(t:Tok):PV:=match t with
 | .op=>.tup [.bytes true [123],.tup [.str "open",.none]]
 | .cl=>.tup [.bytes true [125],.tup [.str "close",.none]]
 | .jR=>.tup [.bytes true [55],.tup [.str "thing",nP .jR]]
 | .ab=>.tup [.bytes true [97,98],.tup [.str "thing",nP .ab]]
 | .sx=>.tup [.bytes true [47,120],.tup [.str "thing",nP .sx]]
 | .st=>.tup [.bytes true [40,97,125,123,41],.tup [.str "thing",nP .st]]
 | .bo=>.tup [.bytes true [91],.tup [.str "thing",nP .bo]]
 | .bc=>.tup [.bytes true [93],.tup [.str "thing",nP .bc]]
 | .gS=>.tup [.bytes false (47::47::iS),.tup [.str "asked",.bytes false iS]]
 | .row=>.tup [.bytes false (47::47::lT),.tup [.str "asked",.bytes false lT]]
 | .gone=>.tup [.bytes false (47::47::qW),.tup [.str "asked",.bytes false qW]]
 | .bad=>.tup [.bytes false (47::47::oK),.tup [.str "asked",.bytes false oK]]
 | .long n e=>.tup [.bytes false (Tok.oct (.long n e)),cond (d9 127 n) (.tup [.str "fault",.bytes true gj]) (.tup [.str "thing",nP (.long n e)])]
noncomputable abbrev pX(cs:List Int)(a:Nat):Nat:=(126+gw cs a 4).toNat
noncomputable abbrev vH(cs:List Int)(a:Nat):Bool:=decide (gw cs (a+1) 2=0)
theorem JB{n:Nat}{e:Bool}(h:e=true):Tok.oct (.long n e)=aI n 110:=by rw[h];rfl
theorem JA{n:Nat}{e:Bool}(h:e=false):Tok.oct (.long n e)=47::aI n 110:=by rw[h];rfl
theorem M3(c:Cx S){cs:List Int}{a:Nat}(hz:cs.length≤60)(ha:a≤50000)(hq:Q (.ok (.pv (kL (.long (pX cs a) (vH cs a))))) (D0 cs (a+2))):ao S (l+3) (fV 973) [.loc 1] [] (D0 cs a) Q:=by
 have r:=jU (cs:=cs) (a:=a) (b:=4) (by decide)
 refine bO c (F973_1 c) rfl rfl λA env fr en=>?_
 refine zY c en 35 (by kernel_rfl) ?_
 refine lH c (by decide) hz (aa ha (by decide)) (lH c (by decide) hz (aa (aH ha) (by decide)) (aR (bx ?_) ?_))
 ·exact iN.mp (bF (lC (Int.natAbs_of_nonneg (Int.add_nonneg (by decide) r.1))) (bF (jT (Int.le_of_lt r.2) 126) (by decide)))
 ·have hq:Q (.ok (.pv (.tup [.bytes false (Tok.oct (.long (pX cs a) (vH cs a))),cond (d9 127 (pX cs a)) (.tup [.str "fault",.bytes true gj]) (.tup [.str "thing",nP (.long (pX cs a) (vH cs a))])]))) (D0 cs (a+2)):=hq
  have sz:aO ([47]++aI (126+gw cs a 4).toNat (110:UInt8)).length aB=true:=cA (by rw[aS,cL];exact aa (bw (uE.mpr (show 126+gw cs a 4≤(130:Nat) from jT (Int.le_of_lt r.2) 126)) 1) (by decide))
  refine iH (λh=>?_) λh=>?_
  ·have h:126+gw cs a 4>127:=of_decide_eq_true h
   rw[show d9 127 (pX cs a)=true from bx (show 127<(126+gw cs a 4).toNat from Int.lt_toNat.mpr h)] at hq
   exact iH (λh2=>by rw[JB h2] at hq;exact hq) λh2=>by rw[JA h2] at hq;exact aR sz hq
  ·have h:¬126+gw cs a 4>127:=of_decide_eq_false h
   rw[show d9 127 (pX cs a)=false from blt_false (show(126+gw cs a 4).toNat≤127 from uE.mpr (gr.mp h))] at hq
   exact iH (λh2=>by rw[JB h2] at hq;exact hq) λh2=>by rw[JA h2] at hq;exact aR sz hq
end
end
section
open MineH (KK bg mA)
section
variable{S:Sx}{l:Nat}{Q:Res MV→br→Prop}
structure LP where
 a:Nat
 rev:List Tok
 d:Int
 fd:Bool
noncomputable abbrev Po(cs:List Int)(s:LP):St:=⟨[("deck",.loc 1),("depth",.pv (.int s.fd s.d)),("found",.loc 40)],D0 cs s.a++[(40,.list (s.rev.map kL))],[40,1],[]⟩
structure D4(a i:Nat)(s:LP):Prop where
 a:s.a≤a+4*i
 n:s.rev.length=i
 g:∀ t ∈ s.rev,t.good
 d0:0≤s.d
 d1:s.d≤i
theorem D4.next{a i a':Nat}{s:LP}(h:D4 a i s){t:Tok}{d:Int}{fd:Bool}(ht:t.good)(ha:a'≤s.a+4)(h0:0≤d)(h1:d≤s.d+1):D4 a (i+1) ⟨a',t::s.rev,d,fd⟩:=
 ⟨aa ha (bD h.a 4),congrArg (·+1) h.n,λx hx=>(ay.mp hx).elim (λe=>e▸ht) (h.g x),h0,bF h1 (Int.add_le_add_right h.d1 1)⟩
theorem Di{cs:List Int}{a:Nat}:(Tok.long (pX cs a) (vH cs a)).good:=by
 have r:=jU (cs:=cs) (a:=a) (b:=4) (by decide)
 show 126≤(126+gw cs a 4).toNat∧(126+gw cs a 4).toNat≤129
 exact⟨iN.mp (bF (di r.1) (Int.self_le_toNat _)),uE.mpr (bF (jT (Int.le_of_lt_add_one (b:=3) r.2) 126) (by decide))⟩
noncomputable abbrev Au:List (List UInt8):=[iS,lT,iS,lT,qW,oK]
noncomputable def CR(n:Nat):Tok:=[Tok.gS,.row,.gS,.row,.gone,.bad].getD n .bad
theorem G4{k:Int}(h0:0≤k)(h1:k<6):(CR k.toNat).good∧kL (CR k.toNat)= .tup [.bytes false ([47,47]++Au.getD k.toNat []),.tup [.str "asked",.bytes false (Au.getD k.toNat [])]]∧([47,47]++Au.getD k.toNat []).length≤65535:=by
 exact(show∀ n,n<6→(CR n).good∧kL (CR n)= .tup [.bytes false ([47,47]++Au.getD n []),.tup [.str "asked",.bytes false (Au.getD n [])]]∧([47,47]++Au.getD n []).length≤65535 from λ
  | 0,_=>⟨trivial,rfl,by decide⟩ | 1,_=>⟨trivial,rfl,by decide⟩ | 2,_=>⟨trivial,rfl,by decide⟩ | 3,_=>⟨trivial,rfl,by decide⟩ | 4,_=>⟨trivial,rfl,by decide⟩ | 5,_=>⟨trivial,rfl,by decide⟩ | n+6,h=>absurd h (gb (dz 6 n))) _ ((lD h0).mpr h1)
theorem tE{k:Int}{m z:Nat}(h0:0≤k)(h1:k<m)(hz:aO m z=true):LH k m z=true:=n6 (n6 (decide_eq_true h0) (bx ((lD h0).mpr h1))) hz
theorem JG{k:Int}{x0 x1 x2 x3 x4 x5:Prop}(h0:0≤k)(h1:k<6)(a0:x0)(a1:x1)(a2:x2)(a3:x3)(a4:x4)(a5:x5):rK (decide (k=0)) x0 (rK (decide (k=1)) x1 (rK (decide (k=2)) x2 (rK (decide (k=3)) x3 (rK (decide (k=4)) x4 (rK (decide (k=5)) x5 False))))):=by
 refine Int.toNat_of_nonneg h0▸?_
 rcases OM ((lD h0).mpr h1) with e | e | e | e | e | e <;> rw[e]
 ·exact a0
 ·exact a1
 ·exact a2
 ·exact a3
 ·exact a4
 ·exact a5
theorem D4.op{a i:Nat}{s:LP}{fd:Bool}(h:D4 a i s):D4 a (i+1) ⟨s.a+1,.op::s.rev,s.d+1,fd⟩:=h.next trivial (bw (by decide) _) (bF h.d0 (di (by decide))) (Int.le_refl _)
theorem D4.cl{a i k:Nat}{s:LP}{fd:Bool}(h:D4 a i s)(hk:k≤4):D4 a (i+1) ⟨s.a+k,.cl::s.rev,max 0 (s.d-1),fd⟩:=h.next trivial (bw hk _) (Int.le_max_left _ _) (Int.max_le.mpr ⟨bF h.d0 (di (by decide)),bF (Int.sub_le_self _ (by decide)) (di (by decide))⟩)
theorem Mq{n:Int}(h:n<14):(1+n).toNat≤14:=uE.mpr (Int.add_comm n 1▸h)
theorem Sb{n:Int}{a i s:Nat}(r:0≤n∧n<14)(ha:a≤100)(hi:i<(1+n).toNat)(h:s≤a+1+4*i):s+2≤50000∧i≤65535:=
 have k:=aa (eB hi) (Mq r.2)
 ⟨aa (bD (aa h (dR (bD ha 1) (dK 4 k))) 2) (by decide),aa k (by decide)⟩
theorem Rh{x k m:Int}(h:decide (x<k)=true)(e:k≤m):decide (x=m)=false:=decide_eq_false λq=>gr.mpr e (q▸of_decide_eq_true h)
theorem Se{n d:Int}{a s r:Nat}(h:0≤n∧n<14)(ia:s≤a+1+4*(1+n).toNat)(il:r=(1+n).toNat)(i1:d≤(1+n).toNat):r≤28∧s+1≤a+60∧r+d.toNat≤28∧(1+n).toNat≤14:=
 have k:=Mq h.2
 have e:=aa (uE.mpr i1) k
 have k2:=il▸k
 ⟨aa k2 (by decide),aa (aH (aa ia (bw (dK 4 k) _))) (bw (show 58≤60 by decide) a),aa (dR k2 e) (by decide),k⟩
theorem IK(c:Cx S){cs:List Int}{a:Nat}(hz:cs.length≤60)(ha:a≤100)(hq:∀ (ts:List Tok) a',ts.length≤28→(∀ t ∈ ts,t.good)→a'≤a+60→Q (.ok (.pv (.list (ts.map kL)))) (D0 cs a')):ao S (l+5) (fV 980) [.loc 1] [] (D0 cs a) Q:=by
 have r:=jU (cs:=cs) (a:=a) (b:=14) (by decide)
 refine bO c (F980_1 c) rfl rfl λA env fr en=>?_
 intro f_ K_
 refine zY c en 35 (by kernel_rfl) ?_
 refine pP c en 36 ?_
 refine lH c (by decide) hz (aa ha (by decide)) ?_
 refine aR (n6 (decide_eq_true (Int.add_nonneg (by decide) r.1)) (bx (iN.mp (bF (lC (Int.natAbs_of_nonneg (Int.add_nonneg (by decide) r.1))) (bF (jT (Int.le_of_lt r.2) 1) (by decide)))))) ?_
 refine pQ (Po cs) (D4 (a+1)) (a:=⟨a+1,[],0,true⟩) ⟨bf _,rfl,λz_ h=>(jd h),Int.le_refl _,Int.le_refl _⟩ (λi s x hx hi=>?_) (λs hi=>?_) rfl
 ·intro L_
  have P1:=(m9 _ _ _ _ _ hx).2
  have ia:=hi.a
  have il:=hi.n
  have i0:=hi.d0
  have sa:=Sb r ha P1 ia
  have RK:=sa.1
  have RJ:=a_ RK
  have OQ:=aa RJ (show 50000≤60000 by decide)
  have TZ:=aa RK (show 50000≤60000 by decide)
  have sz:aO (s.rev.map kL).length aB=true:=cA (by rw[aC,il];exact sa.2)
  have ds:=jU (cs:=cs) (a:=s.a) (b:=16) (by decide)
  have d1:=jU (cs:=cs) (a:=s.a+1) (b:=6) (by decide)
  have d2:=jU (cs:=cs) (a:=s.a+2) (b:=6) (by decide)
  have ak:=G4 d1.1 d1.2
  have nx:∀ t k,t.good→k≤4→D4 (a+1) (i+1) ⟨s.a+k,t::s.rev,s.d,s.fd⟩:=λt k h hk=>hi.next h (bw hk _) i0 (di (by decide))
  refine lH c (by decide) hz (a_ OQ) (iH (λz_=>aR sz ?_) λz_=>iH (λRq=>iH (λhd=>aR sz ?_) λz_=>lH c (by decide) hz OQ (iH (λz_=>aR sz ?_) λz_=>ff (Rh Rq (by decide)) (ff (Rh Rq (by decide))
   (lH c (by decide) hz TZ (aR (tE d2.1 d2.2 rfl) (JG d2.1 d2.2 (aR sz ?_) (aR sz ?_) (aR sz ?_) (aR sz ?_) (aR sz ?_) (aR sz ?_))))))) λz_=>iH (λz_=>M3 c hz RJ (aR sz ?_)) λz_=>iH (λz_=>lH c (by decide) hz OQ (aR (tE d1.1 d1.2 rfl) (aR (cA ak.2.2) (aR sz ?_)))) λz_=>
   lH c (by decide) hz OQ (aR (tE d1.1 d1.2 rfl) (JG d1.1 d1.2 (aR sz ?_) (aR sz ?_) (aR sz ?_) (aR sz ?_) (aR sz ?_) (aR sz ?_))))
  ·exact cU ⟨s.a+1,.op::s.rev,s.d+1,s.fd&&true⟩ [("turn",_),("sort",_)] rfl rfl (hi.op)
  ·exact cU ⟨s.a+1,.cl::s.rev,max 0 (s.d-1),false⟩ [("turn",_),("sort",_)] rfl rfl (hi.cl (by decide))
  ·exact cU ⟨s.a+2,.cl::s.rev,max 0 (s.d-1),false⟩ [("turn",_),("sort",_)] rfl rfl (hi.cl (by decide))
  ·exact cU ⟨s.a+3,.jR::s.rev,s.d,s.fd⟩ [("turn",_),("sort",_),("octets",_),("due",_)] rfl rfl (nx .jR 3 trivial (by decide))
  ·exact cU ⟨s.a+3,.ab::s.rev,s.d,s.fd⟩ [("turn",_),("sort",_),("octets",_),("due",_)] rfl rfl (nx .ab 3 trivial (by decide))
  ·exact cU ⟨s.a+3,.sx::s.rev,s.d,s.fd⟩ [("turn",_),("sort",_),("octets",_),("due",_)] rfl rfl (nx .sx 3 trivial (by decide))
  ·exact cU ⟨s.a+3,.st::s.rev,s.d,s.fd⟩ [("turn",_),("sort",_),("octets",_),("due",_)] rfl rfl (nx .st 3 trivial (by decide))
  ·exact cU ⟨s.a+3,.bo::s.rev,s.d,s.fd⟩ [("turn",_),("sort",_),("octets",_),("due",_)] rfl rfl (nx .bo 3 trivial (by decide))
  ·exact cU ⟨s.a+3,.bc::s.rev,s.d,s.fd⟩ [("turn",_),("sort",_),("octets",_),("due",_)] rfl rfl (nx .bc 3 trivial (by decide))
  ·exact cU ⟨s.a+3,.long (pX cs (s.a+1)) (vH cs (s.a+1))::s.rev,s.d,s.fd⟩ [("turn",_),("sort",_)] rfl rfl (nx (.long (pX cs (s.a+1)) (vH cs (s.a+1))) 3 Di (by decide))
  ·exact cU ⟨s.a+2,CR (gw cs (s.a+1) 6).toNat::s.rev,s.d,s.fd⟩ [("turn",.pv x),("sort",iV (gw cs s.a 16)),("word",.pv (.bytes false (Au.getD (gw cs (s.a+1) 6).toNat [])))] (G:=D0 cs (s.a+2)++[(40,eg.list (kL (CR (gw cs (s.a+1) 6).toNat)::s.rev.map kL))]) (by rw[ak.2.1];rfl) rfl (nx _ 2 ak.1 (by decide))
  ·exact cU ⟨s.a+2,.jR::s.rev,s.d,s.fd⟩ [("turn",_),("sort",_),("octets",_),("due",_)] rfl rfl (nx .jR 2 trivial (by decide))
  ·exact cU ⟨s.a+2,.ab::s.rev,s.d,s.fd⟩ [("turn",_),("sort",_),("octets",_),("due",_)] rfl rfl (nx .ab 2 trivial (by decide))
  ·exact cU ⟨s.a+2,.sx::s.rev,s.d,s.fd⟩ [("turn",_),("sort",_),("octets",_),("due",_)] rfl rfl (nx .sx 2 trivial (by decide))
  ·exact cU ⟨s.a+2,.st::s.rev,s.d,s.fd⟩ [("turn",_),("sort",_),("octets",_),("due",_)] rfl rfl (nx .st 2 trivial (by decide))
  ·exact cU ⟨s.a+2,.bo::s.rev,s.d,s.fd⟩ [("turn",_),("sort",_),("octets",_),("due",_)] rfl rfl (nx .bo 2 trivial (by decide))
  ·exact cU ⟨s.a+2,.bc::s.rev,s.d,s.fd⟩ [("turn",_),("sort",_),("octets",_),("due",_)] rfl rfl (nx .bc 2 trivial (by decide))
 ·have il:=hi.n
  have i1:=hi.d1
  have ia:=hi.a
  rw[lK] at il i1 ia
  have ke:=Se r ia il i1
  have r4:=jU (cs:=cs) (a:=s.a) (b:=4) (by decide)
  have e1:(s.rev.map kL).reverse=(s.rev.reverse).map kL:=(dY).symm
  have e2:(s.rev.map kL).reverse++aI s.d.toNat (kL .cl)=(s.rev.reverse++aI s.d.toNat Tok.cl).map kL:=by rw[e1,b_,List.map_replicate]
  have q1:=hq s.rev.reverse (s.a+1) (by rw[av];exact ke.1) (λt h=>hi.g t (cI.mp h)) ke.2.1
  have q2:=hq (s.rev.reverse++aI s.d.toNat Tok.cl) (s.a+1) (by rw[aS,av,cL];exact ke.2.2.1) (λt h=>(bN.mp h).elim (λh=>hi.g t (cI.mp h)) λh=>by rw[rB h];trivial) ke.2.1
  rw[←e1] at q1
  rw[←e2] at q2
  refine lH c (by decide) hz (aa (a_ ke.2.1) (aa (bD ha _) (by decide))) (iH (λz_=>aR (bx ?_) (aR (cA ?_) q2)) λz_=>q1)
  ·exact aa (iN.mp (bF (lC (Int.natAbs_of_nonneg hi.d0)) i1)) (aa ke.2.2.2 (by decide))
  ·show(s.rev.map kL).length+(aI s.d.toNat (kL .cl)).length≤65535
   rw[aC,cL];exact aa ke.2.2.1 (by decide)
end
end
section
open MineH (KK bg mA)
section
variable{S:Sx}{fr:List Env}{F:br}{n:Snap}{l:Nat}{fv:MV}{args:List MV}{kw:List (Str×MV)}{Q:Res MV→br→Prop}
set_option tactic.hygienic true in
theorem CRel.Ca{dom:List Nat}(cr:CRel S fr F dom n){k:Nat}{rev:List PV}(ho:cN F k=some (.list rev)):
  ∃ X',dB [] (fr.filterMap (·.frame)) [] n ⟨X',n.h⟩∧CRel S fr (iF F k) dom ⟨X',n.h⟩∧X'.θ=n.X.θ∧cy X'.P X'.G (.ref (n.X.θ k)) (.list rev.reverse):=by
 refine fO λzz=>?_
 obtain⟨hd,or⟩:=cr.inv.foot k _ ho
 obtain⟨g,own,r⟩:=or.inv
 rename_i its j
 obtain⟨ev,inv⟩:=lQ (F':=iF F k) (h':=n.h) (own':=λa=>if n.X.own a=some k then none else n.X.own a) (G':=λa=>if a=n.X.θ k then some (fh its j) else n.X.G a) cr.inv hd
  (λb ob e z_=>e) (λb ob e=>⟨ob,e⟩)
  (λa i hi=>by
   show(if n.X.own a=some k then none else n.X.own a)=some i ↔ _
   by_cases q:n.X.own a=some k
   ·rw[if_pos q,q];constructor
    ·intro h;exact bR h
    ·intro h;cases h;exact absurd rfl hi
   ·rw[if_neg q])
  (λa ha=>by
   have ha:(if n.X.own a=some k then none else n.X.own a)=some k:=ha
   by_cases q:n.X.own a=some k
   ·rw[if_pos q] at ha;exact bR ha
   ·rw[if_neg q] at ha;exact absurd ha q)
  (λa o e=>by
   show(if a=n.X.θ k then _ else _)=_
   rw[if_neg];exact e
   rintro rfl;rw[(cr.inv.off _ _ own).1] at e;exact bR e)
  (λa o e=>by
   have e:(if a=n.X.θ k then some (fh its j) else n.X.G a)=some o:=e
   by_cases q:a=n.X.θ k
   ·rw[if_pos q] at e;cases e;subst q;exact .inr ⟨.inl own,g⟩
   ·rw[if_neg q] at e;exact .inl e)
  (λi ob e=>by
   rw[mP] at e
   by_cases q:k=i
   ·rw[if_pos q] at e;exact bR e
   ·rw[if_neg q] at e;exact .inl ⟨eW q,e⟩) (fr.filterMap (·.frame))
 refine zz ?_
 have rr:=r.reverse
 rw[dZ] at rr
 exact⟨_,ev,cr.pN ev inv cr.dom,rfl,.list (if_pos rfl) (rr.mono ev.le.G)⟩
noncomputable def Oi(Q:Res MV→br→Prop)(r:Res MV)(F':br):Prop:=Res.casesOn (motive:=λz_=>Prop) r (λm=>∃ r1 r2 x,m= .lX [.loc 40,.loc 42,.pv x]∧F'=[(40,.list r1),(42,.list r2)]∧Q (.ok (.pv (.tup [.list r1.reverse,.list r2.reverse,x]))) []) (λt=>Q (.exc t) F')
theorem ao.bh(h:ao S l fv args kw [] (Oi Q)):ao S l fv args kw [] Q:=by
 refine⟨λA fr n v vs kvs g d tk os R' room hh cr hv hvs hkv P'=>?_⟩
 refine h.run A fr n v vs kvs g d tk os R' room hh cr hv hvs hkv λn' tk' F' ev C5=>⟨λm hq a ha=>?_,λt hq e fl=>(P' n' tk' F' ev C5).2 t hq e fl⟩
 refine fO λzz=>?_
 obtain⟨r1,r2,x,rfl,rfl,hq⟩:=hq
 obtain⟨X1,jf,Pj,e1,p1⟩:=C5.Ca (k:=40) rfl
 obtain⟨X2,iw,Kc,e2,p2⟩:=Pj.Ca (k:=42) rfl
 have Ey:=Kc.names rfl
 obtain⟨z,its,j,rfl,g0,hs⟩:=ha.inv
 obtain⟨v1,T9,rfl,h1,hs⟩:=hs.inv
 obtain⟨v2,Ua,rfl,h2,hs⟩:=hs.inv
 obtain⟨v3,Ul,rfl,h3,hs⟩:=hs.inv
 cases hs.inv
 obtain⟨rfl,_⟩:=ur h1
 obtain⟨rfl,_⟩:=ur h2
 refine zz ?_
 have pL:=(ev.trans jf).trans iw
 have Ri:=jf.trans iw
 refine(P' _ tk' _ ?_ Ey).1 _ hq _ (.pv (.tup (Ri.le.G _ _ g0) (.cons (p1.le iw.le) (.cons (e1▸p2) (.cons ((nU h3).le Ri.le) .nil)))))
 exact⟨⟨pL.le.P,pL.le.G,λi hi=>(by rw[cr.dom] at hi;exact jd hi),λi hi=>(by rw[cr.dom] at hi;exact jd hi)⟩,pL.keep,pL.live,pL.mW,pL.jt⟩
end
end
section
open MineH (KK bg mA)
noncomputable abbrev xH:PV:=.tup [.str "row",.none]
noncomputable def g8(f:FF):List PV:=FF.rec (motive:=λz_=>List PV) [] (λz_ q vs=>nP q::vs) (λz_ vs=>xH::vs) (λz_ z_ vs ws=>.tup [.str "procedure",.list ws.reverse]::vs) f
noncomputable abbrev kR(f:FF):PV:=(g8 f).headD .none
noncomputable abbrev mq(ts:iR):List PV:=ts.map λt=>.tup [kR t.1,.int false t.2]
noncomputable abbrev wN(o:Option (List UInt8)):PV:=gX (motive:=λz_=>PV) .none (λx=>.bytes true x) o
noncomputable abbrev wG(r:Rd):PV:=.tup [.list (mq r.1).reverse,.list (iy r.2.1).reverse,wN r.2.2]
noncomputable abbrev GJ(ts:TS):List PV:=ts.map λp=>kL p.1
inductive uI:PV→Act→Prop
 | op {o:PV}:uI (.tup [o,.tup [.str "open",.none]]) .op
 | cl {o:PV}:uI (.tup [o,.tup [.str "close",.none]]) .cl
 | fault {o:PV}:uI (.tup [o,.tup [.str "fault",.bytes true gj]]) .fault
 | lf {o:PV}{q:LK}:uI (.tup [o,.tup [.str "thing",nP q]]) (.lf q)
 | gS {o:PV}:uI (.tup [o,.tup [.str "asked",.bytes false iS]]) .gS
 | row {o:PV}:uI (.tup [o,.tup [.str "asked",.bytes false lT]]) .row
 | gone {o:PV}:uI (.tup [o,.tup [.str "asked",.bytes false qW]]) (.none qW)
 | bad {o:PV}:uI (.tup [o,.tup [.str "asked",.bytes false oK]]) (.none oK)
theorem QY(t:Tok):uI (kL t) t.act:=by
 cases t with
 | op=>exact .op
 | cl=>exact .cl
 | gS=>exact .gS
 | row=>exact .row
 | gone=>exact .gone
 | bad=>exact .bad
 | long n e=>
  show uI (.tup [.bytes false (Tok.oct (.long n e)),cond (d9 127 n) (.tup [.str "fault",.bytes true gj]) (.tup [.str "thing",nP (.long n e)])]) (cond (d9 127 n) .fault (.lf (.long n e)))
  cases d9 127 n with
  | true=>exact .fault
  | false=>exact .lf
 | _=>exact .lf
theorem t7{k:Nat}{x a:PV}{l:List PV}{b c:Bool}(h:o5 k x l=some b)(ha:lZ k a x=some c):o5 k x (l++[a])=some (b||c):=by
 induction l generalizing b with
 | nil=>
  cases h
  show aF (lZ k a x) (λp=>some (p||false)) none=_
  rw[ha]
  show some (c||false)=some (false||c)
  rw[Bool.or_false,Bool.false_or]
 | cons y l ih=>
  have h:aF (lZ k y x) (λp=>aF (o5 k x l) (λr=>some (p||r)) none) none=some b:=h
  show aF (lZ k y x) (λp=>aF (o5 k x (l++[a])) (λr=>some (p||r)) none) none=_
  cases q:lZ k y x with
  | none=>rw[q] at h;cases h
  | some p=>
   rw[q] at h
   cases q2:o5 k x l with
   | none=>rw[q2] at h;cases h
   | some r=>
    rw[q2] at h
    rw[ih q2]
    cases h
    exact congrArg some (Bool.or_assoc p r c).symm
theorem Ld(f:FF):o5 60 xH (g8 f).reverse=some f.gf:=FF.rec (motive:=λf=>o5 60 xH (g8 f).reverse=some f.gf) rfl
 (λr q ih=>by
  show o5 60 xH (nP q::g8 r).reverse=_
  rw[cO,t7 ih (c:=false) (by cases q <;> rfl),Bool.or_false];rfl)
 (λr ih=>by
  show o5 60 xH (xH::g8 r).reverse=_
  rw[cO,t7 ih (c:=true) rfl,Bool.or_true];rfl)
 (λr g ih z_=>by
  show o5 60 xH (.tup [.str "procedure",.list (g8 g).reverse]::g8 r).reverse=_
  rw[cO,t7 ih (c:=false) rfl,Bool.or_false];rfl) f
theorem qz(f:FF):(g8 f).length=f.len:=FF.rec (motive:=λf=>(g8 f).length=f.len) rfl (λz_ z_ ih=>congrArg (·+1) ih) (λz_ ih=>congrArg (·+1) ih) (λz_ z_ ih z_=>congrArg (·+1) ih) f
section
variable{S:Sx}{l:Nat}{Q:Res MV→br→Prop}
structure Q6 where
 bh:iR
 fs:List FF
 as:List (List UInt8)
noncomputable abbrev QJ(ts:TS)(most:Int)(fm gl fg:Bool)(s:Q6):St:=⟨[("tokens",.pv (.list (GJ ts))),("most",.pv (.int fm most)),("is_global",.pv (.bool fg gl)),("asked",.loc 42),("opened",.loc 41),("tops",.loc 40)],[(42,.list (iy s.as)),(41,.stack (s.fs.map g8)),(40,.list (mq s.bh))],[42,41,40],[]⟩
variable(most:Int)(gl:Bool)(ts:TS)(R:Rd) in
structure L4(i:Nat)(s:Q6):Prop where
 e:dN most gl (ts.drop i) s.bh s.fs s.as=R
 t:s.bh.length≤i
 f:s.fs.length≤i
 a:s.as.length≤i
 l:∀ f ∈ s.fs,f.len≤i
theorem kT{as:List (List UInt8)}:(iy as).length=as.length:=aC ..
theorem Pa{b c:Bool}{p:Bool→Prop}{x y:Prop}(hc:p c)(h:(b&&c)=true→x)(k:(b&&c)=false→y):rK b (∃ r,p r∧rK r x y) y:=
 iH (λe=>⟨c,hc,iH (λq=>h (n6 e q)) λq=>k (by rw[e,q];rfl)⟩) λe=>k (by rw[e];rfl)
theorem yG{A R:Rd}(e:A=R)(hq:Q (.ok (.pv (wG R))) []):Q (.ok (.pv (wG A))) []:=e▸hq
theorem L4.leaf{ts:TS}{most:Int}{gl:Bool}{R:Rd}{i:Nat}{bh:iR}{f g:FF}{fs:List FF}{as:List (List UInt8)}(e:dN most gl (ts.drop (i+1)) bh (g::fs) as=R)(h1:bh.length≤i)(h2:(f::fs).length≤i)(h3:as.length≤i+1)(h4:∀ g ∈ f::fs,g.len≤i)(hg:g.len=f.len+1):L4 most gl ts R (i+1) ⟨bh,g::fs,as⟩:=
 ⟨e,bM h1,bM h2,h3,λz h=>(ay.mp h).elim (λe=>e▸hg▸aH (h4 f (.head _))) λh=>bM (h4 z (.tail _ h))⟩
theorem L4.top{ts:TS}{most:Int}{gl:Bool}{R:Rd}{i n:Nat}{bh:iR}{f:FF}{as:List (List UInt8)}(e:dN most gl (ts.drop (i+1)) ((f,as.length)::bh) [] as=R)(hn:n=as.length)(h1:bh.length≤i)(h3:as.length≤i+1):L4 most gl ts R (i+1) ⟨(f,n)::bh,[],as⟩:=
 ⟨hn▸e,aH h1,d7 _,h3,λ_ h=>(jd h)⟩
theorem OS{i:Nat}{f:FF}{fs:List FF}(h4:∀ g ∈ f::fs,g.len≤i)(h2:(f::fs).length≤i)(z1:i≤65535):(aO (g8 f).length aB&&aO (fs.map g8).length aB)=true:=
 n6 (cA (by rw[qz];exact aa (h4 f (.head _)) z1)) (cA (by rw[aC];exact aa (a_ h2) z1))
theorem NL(c:Cx S){ts:TS}{most:Int}{fm gl fg:Bool}(hz:ts.length≤100)(hq:∀ R,dN most gl ts [] [] []=R→Q (.ok (.pv (wG R))) []):ao S (l+5) (fV 987) [.pv (.list (GJ ts)),.pv (.int fm most),.pv (.bool fg gl)] [] [] Q:=by
 generalize e0:dN most gl ts [] [] []=R at hq
 have hq:=hq R rfl
 refine ao.bh (Gm c [40,42] (F987_3 c) rfl rfl λA env fr en=>?_)
 intro f_ K_
 refine zY c en 35 (by kernel_rfl) ?_
 refine gE.stack (k:=41) rfl (pP c en 36 ?_)
 refine pQ (QJ ts most fm gl fg) (L4 most gl ts R) (a:=⟨[],[],[]⟩) ⟨e0,bf _,bf _,bf _,λz_ h=>(jd h)⟩ (λi s x hx hi=>?_) (λs hi=>?_) rfl
 ·intro L_ T_
  obtain⟨bh,fs,as⟩:=s
  obtain⟨e,h1,h2,h3,h4⟩:=hi
  obtain⟨p,hp,rfl⟩:∃ p,ts[i]? =some p∧kL p.1=x:=by
   rw[fH] at hx
   cases q:ts[i]? with
   | none=>rw[q] at hx;cases hx
   | some p=>rw[q] at hx;exact⟨p,rfl,aK hx⟩
  obtain⟨hlt,hp⟩:=bW.mp hp
  have e:zU most gl p.1.act (dN most gl (ts.drop (i+1))) bh fs as=R:=by
   rw[gK hlt,hp] at e;exact e
  have tc:=QY p.1
  generalize kL p.1=x at tc
  generalize p.1.act=a at tc e
  have z1:i≤65535:=by exact aa (eB hlt) (aa hz (by decide))
  have za:aO (iy as).length aB=true:=cA (by rw[kT];exact aa h3 z1)
  have zt:aO (mq bh).length aB=true:=cA (by rw[aC];exact aa h1 z1)
  have zf:aO (fs.map g8).length aB=true:=cA (by rw[aC];exact aa h2 z1)
  cases tc with
  | op=>exact aR zf (cU ⟨bh,.nil::fs,as⟩ [("octets",_),("way",_),("due",_)] rfl rfl ⟨e,bM h1,aH h2,bM h3,λf h=>(ay.mp h).elim (λe=>e▸d7 _) λh=>bM (h4 f h)⟩)
  | fault=>exact⟨_,_,_,rfl,rfl,yG e hq⟩
  | gone=>exact aR za (bq true (bH rfl ⟨_,_,_,rfl,rfl,yG e hq⟩))
  | bad=>exact aR za (bq true (bH rfl ⟨_,_,_,rfl,rfl,yG e hq⟩))
  | lf=>
   cases fs with
   | nil=>exact aR za (aR zt (cU ⟨(.lf .nil _,(iy as).length)::bh,[],as⟩ [("octets",_),("way",_),("due",_)] rfl rfl (.top e kT h1 (bM h3))))
   | cons f fs=>exact aR (OS h4 h2 z1) (cU ⟨bh,.lf f _::fs,as⟩ [("octets",_),("way",_),("due",_)] rfl rfl (.leaf e h1 h2 (bM h3) h4 rfl))
  | gS=>
   have Q3:aO (iy (iS::as)).length aB=true:=cA (by rw[kT];exact aH (aa h3 (show i≤65534 from aa (eB hlt) (aa hz (by decide)))))
   cases fs with
   | nil=>exact aR za (bq false (bH rfl (aR Q3 (aR zt (cU ⟨(FF.lf .nil .gS,(iy (iS::as)).length)::bh,[],iS::as⟩ [("octets",_),("way",_),("due",_)] rfl rfl (.top e kT h1 (aH h3)))))))
   | cons f fs=>exact aR za (bq false (bH rfl (aR (OS h4 h2 z1) (cU ⟨bh,FF.lf f .gS::fs,iS::as⟩ [("octets",_),("way",_),("due",_)] rfl rfl (.leaf e h1 h2 (aH h3) h4 rfl)))))
  | row=>
   have Q3:aO (iy (lT::as)).length aB=true:=cA (by rw[kT];exact aH (aa h3 (show i≤65534 from aa (eB hlt) (aa hz (by decide)))))
   cases fs with
   | nil=>exact aR za (bq false (bH rfl (aR Q3 (aR zt (cU ⟨(FF.row .nil,(iy (lT::as)).length)::bh,[],lT::as⟩ [("octets",_),("way",_),("due",_)] rfl rfl (.top e kT h1 (aH h3)))))))
   | cons f fs=>exact aR za (bq false (bH rfl (aR (OS h4 h2 z1) (cU ⟨bh,FF.row f::fs,lT::as⟩ [("octets",_),("way",_),("due",_)] rfl rfl (.leaf e h1 h2 (aH h3) h4 rfl)))))
  | cl=>
   cases fs with
   | nil=>exact⟨_,_,_,rfl,rfl,yG e hq⟩
   | cons f fs=>
    have lf:=h4 f (.head _)
    have zl:aO (g8 f).reverse.length aB=true:=cA (by rw[av,qz];exact aa lf z1)
    have zf:aO (fs.map g8).length aB=true:=cA (by rw[aC];exact aa (a_ h2) z1)
    have el:((g8 f).reverse.length:Int)=f.len:=by rw[av,qz]
    have e:cond (decide (most<f.len)) (bh,as,some gj) (cond (gl&&f.gf) (bh,as,some Ac) (xB (dN most gl (ts.drop (i+1))) bh fs (λr=>.pr r f) as))=R:=e
    rw[←el] at e
    refine aR zf (aR zl (iH (λq=>?_) λq=>?_))
    ·have q:decide (most<((g8 f).reverse.length:Int))=true:=q
     rw[q] at e
     exact⟨_,_,_,rfl,rfl,yG e hq⟩
    have q:decide (most<((g8 f).reverse.length:Int))=false:=q
    rw[q] at e
    have e:cond (gl&&f.gf) (bh,as,some Ac) (xB (dN most gl (ts.drop (i+1))) bh fs (λr=>.pr r f) as)=R:=e
    refine Pa (Ld f) (λq=>?_) λq=>?_
    ·rw[q] at e
     exact⟨_,_,_,rfl,rfl,yG e hq⟩
    rw[q] at e
    cases fs with
    | nil=>exact aR za (aR zt (cU ⟨(.pr .nil f,(iy as).length)::bh,[],as⟩ [("octets",_),("way",_),("due",_),("items",_)] rfl rfl (.top e kT h1 (bM h3))))
    | cons g fs=>exact aR (OS (λz h=>h4 z (.tail _ h)) (a_ h2) z1) (cU ⟨bh,.pr g f::fs,as⟩ [("octets",_),("way",_),("due",_),("items",_)] rfl rfl (.leaf e h1 (a_ h2) (bM h3) (λz h=>h4 z (.tail _ h)) rfl))
 ·obtain⟨bh,fs,as⟩:=s
  have e:=hi.e
  rw[show ts.drop (GJ ts).length=[] by rw[aC,List.drop_length]] at e
  cases fs with
  | nil=>exact⟨_,_,_,rfl,rfl,yG e hq⟩
  | cons f fs=>exact⟨_,_,_,rfl,rfl,yG e hq⟩
end
end
section
open MineH (KK bg mA)
noncomputable def FF.its(f:FF):List FF:=FF.rec (motive:=λz_=>List FF) [] (λz_ q v=>.lf .nil q::v) (λz_ v=>.row .nil::v) (λz_ g v z_=>.pr .nil g::v) f
noncomputable def FF.dp(f:FF):Nat:=FF.rec (motive:=λz_=>Nat) 0 (λz_ z_ n=>n) (λz_ n=>n) (λz_ z_ n m=>max n (m+1)) f
noncomputable abbrev ON(pk:Bool)(ws:List PV):PV:=cond pk (.tup [.str "packed",.bool true true,.int true 2,.list ws]) (.tup [.str "array",.bool true true,.int true 3,.list ws])
noncomputable def sZ(pk:Bool)(f:FF):List PV:=FF.rec (motive:=λz_=>List PV) [] (λz_ q vs=>nP q::vs) (λz_ vs=>xH::vs) (λz_ z_ vs ws=>ON pk ws.reverse::vs) f
noncomputable abbrev g9(pk:Bool)(f:FF):PV:=(sZ pk f).headD .none
theorem MS(f:FF):g8 f=f.its.map kR:=FF.rec (motive:=λf=>g8 f=f.its.map kR) rfl (λz_ z_ ih=>congrArg (_:: ·) ih) (λz_ ih=>congrArg (_:: ·) ih) (λz_ z_ ih z_=>congrArg (_:: ·) ih) f
theorem Jl{pk:Bool}(f:FF):sZ pk f=f.its.map (g9 pk):=FF.rec (motive:=λf=>sZ pk f=f.its.map (g9 pk)) rfl (λz_ z_ ih=>congrArg (_:: ·) ih) (λz_ ih=>congrArg (_:: ·) ih) (λz_ z_ ih z_=>congrArg (_:: ·) ih) f
theorem AQ{x f:FF}:x ∈ f.its→x.dp≤f.dp:=FF.rec (motive:=λf=>x ∈ f.its→x.dp≤f.dp) (λh=>(jd h)) (λz_ z_ ih h=>(ay.mp h).elim (λe=>e▸d7 _) ih) (λz_ ih h=>(ay.mp h).elim (λe=>e▸d7 _) ih)
 (λr g ih z_ h=>(ay.mp h).elim (λe=>e▸(show max 0 (g.dp+1)≤max r.dp (g.dp+1) by exact Nat.max_le.mpr ⟨d7 _,sJ _ _⟩)) λh=>aa (ih h) (show r.dp≤max r.dp (g.dp+1) by exact Nat.le_max_left _ _)) f
noncomputable def FF.sz(f:FF):Nat:=FF.rec (motive:=λz_=>Nat) 0 (λz_ z_ n=>n+1) (λz_ n=>n+1) (λz_ z_ n k=>n+k+1) f
theorem wY(f:FF):f.its.length≤f.sz:=FF.rec (motive:=λf=>f.its.length≤f.sz) (bf _) (λz_ z_ ih=>aH ih) (λz_ ih=>aH ih) (λr g ih z_=>aH (aa ih (aT _ _))) f
section
variable{S:Sx}{l:Nat}{Q:Res MV→br→Prop}{pk fp:Bool}
theorem vm(c:Cx S){k:Str}{r:List PV}(h:bT k "procedure"=false)(hq:Q (.ok (.pv (.tup (.str k::r)))) []):ao S (l+1) (fV 992) [.pv (.tup (.str k::r)),.pv (.bool fp pk)] [] [] Q:=
 bO c (F992_2 c) rfl rfl λA env fr en=>lq (congrArg (!·) h) hq
theorem Kg(c:Cx S){q:LK}(hq:Q (.ok (.pv (nP q))) []):ao S (l+1) (fV 992) [.pv (nP q),.pv (.bool fp pk)] [] [] Q:=by
 cases q <;> exact vm c rfl hq
theorem Kh(c:Cx S){g:FF}(hz:g.sz≤60000)(ih:∀ x ∈ g.its,∀ Q:Res MV→br→Prop,Q (.ok (.pv (g9 pk x))) []→ao S (l+1) (fV 992) [.pv (kR x),.pv (.bool fp pk)] [] [] Q)(hq:Q (.ok (.pv (ON pk (sZ pk g).reverse))) []):
  ao S (l+3) (fV 992) [.pv (.tup [.str "procedure",.list (g8 g).reverse]),.pv (.bool fp pk)] [] [] Q:=by
 have e1:(g8 g).reverse=g.its.reverse.map kR:=by rw[MS,dY]
 have e2:(sZ pk g).reverse=g.its.reverse.map (g9 pk):=by rw[Jl,dY]
 rw[e2] at hq
 refine bO c (F992_2 c) rfl rfl λA env fr en=>?_
 refine qt c en 35 35 (by kernel_rfl) (by kernel_rfl) (by kernel_rfl) ?_
 refine lG g.its.reverse kR (g9 pk) ⟨[("is_packing",.pv (.bool fp pk))],[],[],[]⟩ e1 (by rw[av];exact aa (wY g) (aa hz (by decide))) rfl rfl (λA' env' uA i ys x hx hi=>?_) ?_
 ·exact ih x (cI.mp (bI hx)) _ ⟨_,rfl,cU () [("one",.pv (kR x))] rfl rfl (Dj hi hx)⟩
 ·exact iH (λe=>by subst e;exact hq) λe=>by subst e;exact hq
theorem Pq(c:Cx S)(f:FF):f.sz≤60000→∀ x ∈ f.its,∀ l (Q:Res MV→br→Prop),x.dp≤l→Q (.ok (.pv (g9 pk x))) []→ao S (2*l+1) (fV 992) [.pv (kR x),.pv (.bool fp pk)] [] [] Q:=
 FF.rec (motive:=λf=>f.sz≤60000→∀ x ∈ f.its,∀ l (Q:Res MV→br→Prop),x.dp≤l→Q (.ok (.pv (g9 pk x))) []→ao S (2*l+1) (fV 992) [.pv (kR x),.pv (.bool fp pk)] [] [] Q)
  (λz_ x h=>(jd h))
  (λr q ih hz x h=>(ay.mp h).elim (λe l Q z_ hq=>by subst e;exact Kg c hq) (ih (by have hz:r.sz+1≤60000:=hz;exact a_ hz) x))
  (λr ih hz x h=>(ay.mp h).elim (λe l Q z_ hq=>by subst e;exact vm c rfl hq) (ih (by have hz:r.sz+1≤60000:=hz;exact a_ hz) x))
  (λr g ih1 ih2 hz x h=>by
   have hz:r.sz+g.sz+1≤60000:=hz
   refine(ay.mp h).elim (λe l Q hl hq=>?_) (ih1 (aa (aT _ _) (a_ hz)) x)
   subst e
   have hl:max 0 (g.dp+1)≤l:=hl
   obtain⟨m,rfl⟩:∃ m,l=m+1:=⟨l-1,by exact(iQ (aa (dz 1 _) (aa (sJ _ _) hl))).symm⟩
   exact Kh c (l:=2*m) (aa (dz _ _) (a_ hz)) (λy hy Q=>ih2 (aa (dz _ _) (a_ hz)) y hy m Q (by have:=AQ hy;exact aa this (iO (aa (sJ _ _) hl)))) hq) f
end
end
section
open MineH (KK bg mA)
noncomputable def Eqv(n:Nat)(w d:PV):Prop:=∀ k,n≤k→lZ k w d=some true
inductive mu(n:Nat):List PV→List PV→Prop
 | nil:mu n [] []
 | cons {w d:PV}{ws ds:List PV}:Eqv n w d→mu n ws ds→mu n (w::ws) (d::ds)
theorem mu.app{n:Nat}{ws ds:List PV}{w d:PV}(h:mu n ws ds)(k:Eqv n w d):mu n (ws++[w]) (ds++[d]):=by
 induction h with
 | nil=>exact .cons k .nil
 | cons a _ ih=>exact .cons a ih
theorem mu.seq{n k:Nat}(hk:n≤k){ws ds:List PV}(h:mu n ws ds):oh (lZ k) ws ds=some true:=by
 induction h with
 | nil=>rfl
 | @cons w d ws ds a _ ih=>
  show aF (lZ k w d) (λb=>aF (oh (lZ k) ws ds) (λb'=>some (b&&b')) none) none=_
  rw[a k hk,ih];rfl
theorem mu.len{n:Nat}{ws ds:List PV}(h:mu n ws ds):ws.length=ds.length:=by
 induction h with
 | nil=>rfl
 | cons _ _ ih=>exact congrArg (·+1) ih
theorem Eqv.up{n m:Nat}{w d:PV}(h:Eqv n w d)(hm:n≤m):Eqv m w d:=λk hk=>h k (aa hm hk)
theorem PA{k m:Nat}(h:m+1≤k):∃ j,k=j+1:=⟨k-1,(iQ (aa (dz 1 m) h)).symm⟩
theorem Eqv.tup{n:Nat}{ws ds:List PV}(h:mu n ws ds):Eqv (n+1) (.tup ws) (.tup ds):=λk hk=>by
 obtain⟨k,rfl⟩:=PA hk
 exact h.seq (iO hk)
theorem Eqv.list{n:Nat}{ws ds:List PV}(h:mu n ws ds):Eqv (n+1) (.list ws) (.list ds):=λk hk=>by
 obtain⟨k,rfl⟩:=PA hk
 show cond (aX ws.length ds.length) (oh (lZ k) ws ds) (some false)=_
 rw[h.len,Nat.beq_refl]
 exact h.seq (iO hk)
theorem Eqv.str{x:Str}{n:Nat}:Eqv n (.str x) (.str x):=λk z_=>by
 have e:some (bT x x)=some true:=congrArg some (lO x)
 cases k <;> exact e
theorem Eqv.bool{a b x:Bool}{n:Nat}:Eqv n (.bool a x) (.bool b x):=λk z_=>by
 have e:some (x == x)=some true:=congrArg some (beq_self_eq_true x)
 cases k <;> exact e
theorem Eqv.int{a b:Bool}{x:Int}{n:Nat}:Eqv n (.int a x) (.int b x):=λk z_=>by
 have e:some (x == x)=some true:=congrArg some (beq_self_eq_true x)
 cases k <;> exact e
theorem Eqv.bytes{a b:Bool}{x:List UInt8}{n:Nat}:Eqv n (.bytes a x) (.bytes b x):=λk z_=>by
 have e:some (x == x)=some true:=congrArg some (beq_self_eq_true x)
 cases k <;> exact e
theorem Eqv.none{n:Nat}:Eqv n .none .none:=λk z_=>by cases k <;> rfl
noncomputable abbrev jC(ns:List Nat):List PV:=ns.map λi:Nat=>PV.int false i
noncomputable abbrev uz(bs:List PV):br:=[(10,.list bs)]
section
variable{S:Sx}{l:Nat}{Q:Res MV→br→Prop}{pk gl:Bool}{rb:PV}{bs:List PV}
theorem DS(c:Cx S){f1 f2 f3 e:Bool}{a:Int}{w:List UInt8}(hq:Q (.ok (.pv (.tup [.str "name",.bytes f1 w,.bool f2 e,.int f3 a]))) (uz bs)):
  ao S (l+3) (fV 997) [.pv (eH (.str "name") (.bytes f1 w) (.bool f2 e) (.int f3 a)),.pv rb,.loc 10] [] (uz bs) Q:=
 bO c (F997_3 c) rfl rfl λA env fr en=>bq false (bH rfl hq)
theorem z5(c:Cx S){f1 f2 f3 e:Bool}{a x:Int}(hq:Q (.ok (.pv (.tup [.str "integer",.int f1 x,.bool f2 e,.int f3 a]))) (uz bs)):
  ao S (l+3) (fV 997) [.pv (eH (.str "integer") (.int f1 x) (.bool f2 e) (.int f3 a)),.pv rb,.loc 10] [] (uz bs) Q:=
 bO c (F997_3 c) rfl rfl λA env fr en=>bq false (bH rfl hq)
theorem z6(c:Cx S){i:Nat}{b:List UInt8}{f:Bool}(hz:b.length≤65535)(hq:Q (.ok (.pv (.tup [.str "string",.bytes false b,.bool false false,.int false 3]))) (uz bs)):
  ao S (l+3) (fV 997) [.pv (OR i b f gl),.pv rb,.loc 10] [] (uz bs) Q:=
 bO c (F997_3 c) rfl rfl λA env fr en=>bq false (bH rfl (rO c hz hq))
theorem IL(c:Cx S){v:PV}{q:LK}(h:rA gl v q)(hq:∀ w,Eqv 1 w (nP q)→Q (.ok (.pv w)) (uz bs)):ao S (l+3) (fV 997) [.pv v,.pv rb,.loc 10] [] (uz bs) Q:=by
 cases h with
 | jR=>exact z5 c (hq _ (.tup (.cons .str (.cons .int (.cons .bool (.cons .int .nil))))))
 | gS=>exact z5 c (hq _ (.tup (.cons .str (.cons .int (.cons .bool (.cons .int .nil))))))
 | st=>exact z6 c (by decide) (hq _ (.tup (.cons .str (.cons .bytes (.cons .bool (.cons .int .nil))))))
 | _=>exact DS c (hq _ (.tup (.cons .str (.cons .bytes (.cons .bool (.cons .int .nil))))))
noncomputable abbrev Gg(t:au)(vs:List PV)(g lv:PV):PV:=ya (some t) (.int false 1) vs g lv
theorem GL(c:Cx S){t:au}{vs:List PV}{g lv s m:PV}{f1 f2:Bool}(hq:Q (.ok (.pv xH)) (uz bs)):ao S (l+3) (fV 997) [.pv (eH (.str "array") (yb (Gg t vs g lv) s m) (.bool f1 false) (.int f2 3)),.pv (Gg t vs g lv),.loc 10] [] (uz bs) Q:=by
 refine bO c (F997_3 c) rfl rfl λA env fr en=>bq true (bH rfl ?_)
 exact aR (Nat.beq_refl t) (bq true (bH rfl hq))
theorem Tells.list{rw:PV}{vs:List PV}{f:FF}{ns:List Nat}(h:Tells rw pk gl vs f ns):∃ L:List (PV×FF×List Nat),vs=L.map (·.1)∧f.its=L.map (·.2.1)∧ns=(L.reverse.map (·.2.2)).flatten∧∀ p ∈ L,Tells rw pk gl [p.1] p.2.1 p.2.2:=by
 have app:∀ (L:List (PV×FF×List Nat)) p,((p::L).reverse.map (·.2.2)).flatten=(L.reverse.map (·.2.2)).flatten++p.2.2:=λL p=>by
  rw[cO,b_,List.flatten_append,cG,List.map_nil,lE,List.flatten_nil,dw]
 induction h with
 | nil=>exact⟨[],rfl,rfl,rfl,λz_ h=>(jd h)⟩
 | @lf vs f ns v q _ hl ih=>
  refine E1_4 ih λL h1 h2 h3 h4=>?_
  exact⟨(v,.lf .nil q,[])::L,by rw[h1];rfl,congrArg (_:: ·) h2,by rw[app,dw];exact h3,λp hp=>(ay.mp hp).elim (λe=>e▸ .lf .nil hl) (h4 p)⟩
 | row _ ih=>
  refine E1_4 ih λL h1 h2 h3 h4=>?_
  exact⟨(rw,.row .nil,[])::L,by rw[h1];rfl,congrArg (_:: ·) h2,by rw[app,dw];exact h3,λp hp=>(ay.mp hp).elim (λe=>e▸ .row .nil) (h4 p)⟩
 | @pr vs ws f g ns ms t i fl _ hw ih _=>
  refine E1_4 ih λL h1 h2 h3 h4=>?_
  exact⟨(Ig (some t) i ws.reverse fl gl pk,.pr .nil g,i::ms)::L,by rw[h1];rfl,congrArg (_:: ·) h2,by rw[app];exact congrArg (·++_) h3,λp hp=>(ay.mp hp).elim (λe=>e▸ .pr .nil hw) (h4 p)⟩
noncomputable abbrev TL:=List (PV×FF×List Nat)
noncomputable abbrev u5(M:TL):List Nat:=(M.map (·.2.2)).flatten
theorem z4{M:TL}{j:Nat}{p:PV×FF×List Nat}(h:M[j]? =some p):u5 (M.take (j+1))=u5 (M.take j)++p.2.2:=by
 rw[fJ,h,kJ,u5,b_,List.flatten_append,cG,List.map_nil,lE,List.flatten_nil,dw]
theorem Lp{M:TL}{j:Nat}:(u5 (M.take j)).length≤(u5 M).length:=by
 have e:u5 M=u5 (M.take j)++u5 (M.drop j):=by rw[←List.flatten_append, ←b_,List.take_append_drop]
 rw[e,aS];exact aT _ _
structure OB(pk:Bool)(n:Nat)(M:TL)(B:List PV)(j:Nat)(ys b:List PV):Prop where
 e:mu n ys ((M.take j).map λp=>g9 pk p.2.1)
 b:b=(jC (u5 (M.take j))).reverse++B
theorem OB.next{n:Nat}{M:TL}{B ys b:List PV}{j:Nat}{p:PV×FF×List Nat}{w:PV}(h:OB pk n M B j ys b)(hp:M[j]? =some p)(hw:Eqv n w (g9 pk p.2.1)):OB pk n M B (j+1) (ys++[w]) ((jC p.2.2).reverse++b):=by
 refine⟨?_,?_⟩
 ·rw[fJ,hp,kJ,b_]
  exact h.e.app hw
 ·rw[h.b,z4 hp,show jC (u5 (M.take j)++p.2.2)=jC (u5 (M.take j))++jC p.2.2 from b_,iu,c_]
theorem vR(c:Cx S){t t':au}{rs:List PV}{g lv:PV}{i:Nat}{fl fa:Bool}{a:Int}{k:Str}(hk:o5 60 (.str k) [.str "array",.str "packed"]=some true)(hi:i≠1){M:TL}(hms:(u5 M).length+bs.length≤59000)(hz:M.length≤60000)(n:Nat)
  (ih:∀ p ∈ M,∀ bs (Q:Res MV→br→Prop),p.2.2.length+bs.length≤59001→(∀ w,Eqv n w (g9 pk p.2.1)→Q (.ok (.pv w)) (uz ((jC p.2.2).reverse++bs)))→ao S (l+1) (fV 997) [.pv p.1,.pv (Gg t rs g lv),.loc 10] [] (uz bs) Q)
  (hq:∀ ws,mu n ws (M.map λp=>g9 pk p.2.1)→Q (.ok (.pv (.tup [.str k,.bool true true,.int fa a,.list ws]))) (uz ((jC (i::u5 M)).reverse++bs))):
  ao S (l+3) (fV 997) [.pv (eH (.str k) (yb (ya (some t') (.int false i) (M.map (·.1)) (.bool fl gl) (.int false 0)) (.int true 0) (.int false (M.map (·.1)).length)) (.bool true true) (.int fa a)),.pv (Gg t rs g lv),.loc 10] [] (uz bs) Q:=by
 have e1:decide ((i:Int)=1)=false:=decide_eq_false λe=>hi (Int.ofNat.inj e)
 have e2:(!decide ((i:Int)=1)||Nat.beq t' t)=true:=by rw[e1];rfl
 refine bO c (F997_3 c) rfl rfl λA env fr en=>bq true (bH hk (aR e2 (ff e1 (aR (cA (aa (aa (dz _ _) hms) (by decide))) ?_))))
 refine qt c en 35 35 (by kernel_rfl) (by kernel_rfl) (by kernel_rfl) ?_
 refine rR c (by rw[aC];exact aa hz (by decide)) ?_
 refine qx (λb:List PV=>⟨[("bodies",.loc 10),("row",.pv (Gg t rs g lv))],uz b,[10],[]⟩) (OB pk n M (.int false i::bs)) (a:=.int false i::bs) (by rw[aC];exact aa hz (by decide)) rfl rfl ⟨.nil,rfl⟩ (λA' env' uA j ys b x hx hi=>?_) (λys b h=>?_)
 ·obtain⟨p,hp,rfl⟩:∃ p,M[j]? =some p∧p.1=x:=by
   rw[fH] at hx
   cases q:M[j]? with
   | none=>rw[q] at hx;cases hx
   | some p=>rw[q] at hx;exact⟨p,rfl,aK hx⟩
  have le:(u5 (M.take (j+1))).length≤(u5 M).length:=Lp
  have le:p.2.2.length+b.length≤59001:=by
   rw[z4 hp,aS] at le
   rw[hi.b,aS,av,aC,bE, ←j3,lF p.2.2.length]
   exact aH (aa (bD le bs.length) hms)
  exact ih p (bI hp) b _ le λw hw=>⟨_,rfl,cU ((jC p.2.2).reverse++b) [("one",.pv p.1)] rfl rfl (hi.next hp hw)⟩
 ·obtain⟨h1,h2⟩:=h
  rw[aC,e_] at h1 h2
  subst h2
  have q:=hq ys h1
  rw[show(jC (i::u5 M)).reverse++bs=(jC (u5 M)).reverse++ .int false i::bs by rw[show jC (i::u5 M)=PV.int false i::jC (u5 M) from rfl,cO,c_];rfl] at q
  exact q
variable{s mn:PV}{t:au}{rs:List PV}{g lv:PV}{f1 f2:Bool}
noncomputable def D_(S:Sx)(pk:Bool)(rb:PV)(l:Nat)(v:PV)(x:FF)(ns:List Nat):Prop:=∀ bs (Q:Res MV→br→Prop),ns.length+bs.length≤59001→(∀ w,Eqv (2*x.dp+1) w (g9 pk x)→Q (.ok (.pv w)) (uz ((jC ns).reverse++bs)))→ao S (2*l+3) (fV 997) [.pv v,.pv rb,.loc 10] [] (uz bs) Q
noncomputable abbrev QS(t:au)(rs:List PV)(g lv s mn:PV)(f1 f2:Bool):PV:=eH (.str "array") (yb (Gg t rs g lv) s mn) (.bool f1 false) (.int f2 3)
theorem Og(c:Cx S)(f:FF):f.sz≤50000→∀ v x ns l,x ∈ f.its→Tells (QS t rs g lv s mn f1 f2) pk gl [v] x ns→(∀ m ∈ ns,m≠1)→x.dp≤l→D_ S pk (Gg t rs g lv) l v x ns:=by
 induction f with
 | nil=>exact λz_ v x ns l h=>(jd h)
 | lf r q ih=>
  intro hz v x ns l h ht hn hl bs Q hb hq
  rcases ay.mp h with rfl | h
  ·cases ht with
   | lf h1 h2=>cases h1;exact IL c h2 hq
  ·exact ih (a_ hz) v x ns l h ht hn hl bs Q hb hq
 | row r ih=>
  intro hz v x ns l h ht hn hl bs Q hb hq
  rcases ay.mp h with rfl | h
  ·cases ht with
   | row h1=>cases h1;exact GL c (hq _ (.tup (.cons .str (.cons .none .nil))))
  ·exact ih (a_ hz) v x ns l h ht hn hl bs Q hb hq
 | pr r f ih1 ih2=>
  intro hz v x ns l h ht hn hl bs Q hb hq
  have hz:=a_ hz
  rcases ay.mp h with rfl | h
  ·have hl:=aa (sJ _ _) hl
   have hd:FF.dp (.pr .nil f)=f.dp+1:=Nat.zero_max _
   have fz:=aa (dz _ _) hz
   obtain⟨m,rfl⟩:=PA hl
   cases ht with
   | @pr _ ws _ _ ns ms t' i fl h1 h2=>
   cases h1
   refine E1_4 h2.list λL e1 e2 e3 h4=>?_
   have Si:ws.reverse=L.reverse.map (·.1):=by rw[e1,dY]
   have Sj:(sZ pk f).reverse=L.reverse.map λp=>g9 pk p.2.1:=by rw[Jl,e2,uG,dY];rfl
   have el:L.reverse.length=f.its.length:=by rw[av,e2,aC]
   have hb:(ms.length+1)+bs.length≤59001:=hb
   subst e3
   have hb2:(u5 L.reverse).length+bs.length≤59000:=iO (aa (aQ (Nat.succ_add _ _).symm) hb)
   have ih:∀ p ∈ L.reverse,D_ S pk (Gg t rs g lv) m p.1 p.2.1 p.2.2:=λp hp=>by
    have tB:=cI.mp hp
    have hf:p.2.1 ∈ f.its:=e2▸nW tB
    exact ih2 fz _ _ _ m hf (h4 p tB) (λk hk=>hn k (.tail _ (List.mem_flatten.mpr ⟨_,nW hp,hk⟩))) (aa (AQ hf) (iO hl))
   have ih:∀ p ∈ L.reverse,∀ bs (Q:Res MV→br→Prop),p.2.2.length+bs.length≤59001→(∀ w,Eqv (2*f.dp+1) w (g9 pk p.2.1)→Q (.ok (.pv w)) (uz ((jC p.2.2).reverse++bs)))→ao S (2*m+3) (fV 997) [.pv p.1,.pv (Gg t rs g lv),.loc 10] [] (uz bs) Q:=λp hp bs Q hb hq=>
    ih p hp bs Q hb λw hw=>hq w (hw.up (aH (dK 2 (AQ (f:=f) (x:=p.2.1) (e2▸nW (cI.mp hp))))))
   rw[hd] at hq
   have hq:∀ w,Eqv (2*f.dp+1+2) w (ON pk (L.reverse.map λp=>g9 pk p.2.1))→Q (.ok (.pv w)) (uz ((jC (i::u5 L.reverse)).reverse++bs)):=λw hw=>hq w (show Eqv _ w (ON pk (sZ pk f).reverse) by rw[Sj];exact hw)
   rw[Si]
   cases pk with
   | true=>exact vR c (k:="packed") rfl (hn i (.head _)) hb2 (by rw[el];exact aa (wY f) (aa fz (by decide))) (2*f.dp+1) ih λws h=>hq _ (.tup (.cons .str (.cons .bool (.cons .int (.cons (.list h) .nil)))))
   | false=>exact vR c (k:="array") rfl (hn i (.head _)) hb2 (by rw[el];exact aa (wY f) (aa fz (by decide))) (2*f.dp+1) ih λws h=>hq _ (.tup (.cons .str (.cons .bool (.cons .int (.cons (.list h) .nil)))))
  ·exact ih1 (aa (aT _ _) hz) v x ns l h ht hn hl bs Q hb hq
end
end
section
open MineH (KK bg mA)
section
variable{S:Sx}{l:Nat}{Q:Res MV→br→Prop}
theorem xP(c:Cx S){bs:List UInt8}(hq:Q (.ok (.loc 2)) [(2,rQ bs 0 (.bool true false))]):ao S (l+2) (fV 405) [.pv (.bytes false bs)] [] [] Q:=
 uN c (O0 c) 2 rfl (bO c (F380_2 c) rfl rfl λA env fr en=>hq)
theorem Gq(c:Cx S){m:Mem}(hq:Q (.ok (.loc 5)) ((5,LN)::mF m)):ao S (l+2) (fV 604) [.loc 3] [] (mF m) Q:=
 uN c (O1 c) 5 rfl (bO c (F528_2 c) rfl rfl λA env fr en=>hq)
noncomputable abbrev Nb(r:Int)(fr:Bool):Mem:=⟨r,fr,false,true,0,true,0,true,0,true,0,true⟩
theorem HS(c:Cx S){r:Int}{fr:Bool}(hq:Q (.ok (.loc 3)) (mF (Nb r fr))):ao S (l+2) (fV 928) [.pv (Qn (.int fr r))] [] [] Q:=by
 refine uN c (O3 c) 3 rfl ?_
 refine Gm c [3,12] (F665_2 c) rfl rfl λA env fr en=>?_
 exact EB en.ok (k:=12) rfl hq
noncomputable abbrev PD:eX:=gY (bg 112) "_law_world" .none 1003 "law_pq0918_01" 1540
noncomputable abbrev Lm:List (Str×Src):=[("most",.arg 0),("is_global",.arg 1)]
theorem NT(c:Cx S)(ns:List Nat){k:Nat}{a b:MV}{F:br}
  (h:∀ A env fr,En S ⟨A,env,fr,k⟩ (aP (bg 112))→env.code= .ref 1003→env.qual=("_law_world":Str)++".<locals>."→(oq S ⟨A,env,fr,k⟩ PG (aP (bg 112)) 40).exs (bodyOf (bg 112)) ⟨Ea [a,b] [] Lm,F,F.map (·.1),u6 (aP (bg 112)) Lm⟩ (Dt F (vQ F ns Q))):ao S (k+1) (fV 1004) [a,b] [] F Q:=by
 have HF:=Kr c.ok (a:=1004) (fd:=PD) (by rw[c.K];kernel_rfl) (by rw[c.K];kernel_rfl)
 have sh:Shape S PD 2 [] Lm:=zL (by kernel_rfl) (by rw[c.K];exact g7 λz_ z_ z_=>by kernel_rfl)
 refine ao.tidy ns (B4 (P:=PG) c.ok c.pg HF sh (jJ k) rfl rfl λf en n rel=>?_)
 obtain⟨A,env,fr,lv⟩:=f
 obtain rfl:lv=k:=en.lv
 have hs:PD.scope.names=aP (bg 112):=by kernel_rfl
 have I_:En S ⟨A,env,fr,lv⟩ (aP (bg 112)):=⟨en.ok,en.nodup,by rw[en.scope];exact hs,en.own,en.frame,en.hand⟩
 rw[hs] at rel
 exact(qD c.ok en.ok en.nodup c.pg I_.names 40).exs _ n _ _ rel (h A env fr I_ en.code en.qual)
theorem Cx.def(c:Cx S):IZ S 1003:=by
 refine⟨?_,?_,λenv=>?_,?_,c.bt,?_⟩
 ·rw[c.fN];kernel_rfl
 ·rw[c.fN];kernel_rfl
 ·rw[c.fN];kernel_rfl
 ·rw[c.fN,c.K];kernel_rfl
 ·rw[c.fN];decide
theorem def_(c:Cx S){A:bC}{env:Env}{fr:List Env}{n:Nat}{σ:St}(en:En S ⟨A,env,fr,n⟩ (aP (bg 112)))(hc:env.code= .ref 1003)(hq:env.qual=("_law_world":Str)++".<locals>."){Q:Res cj→St→Prop}
  (h1:lk σ.locs "asked"=some (.loc 6))(h3:lk σ.locs "known"=some (.loc 7)){mk:Bool}(ht:cN σ.foot 9=some (.tab mk))(hk:bL 8 σ.dom=false)
  (hQ:Q (.ok .next) {σ with locs:=Mine.put σ.locs pK.name (.loc 8),dom:=8::σ.dom,foot:=(8,.clos 6 7)::jV σ.foot 9 (.tab true)}):
  gE S ⟨A,env,fr,n⟩ (.FunctionDef pK.name pK.params pK.body [] none [] pK.scope none pK.name pK.pos) σ Q:=by
 have e:S.fN=pK:=c.fN
 have Qa:qualnameIn env S.fN.name S.fN.name=S.fN.qual:=by
  rw[e]
  unfold qualnameIn
  rw[ee (f:=⟨A,env,fr,n⟩) en.names,hq]
  kernel_rfl
 have h5:lk (aP (bg 112)) S.fN.name=some .local:=by rw[e];kernel_rfl
 have h:=Kf c.ok en.ok en.names c.cl c.def hc Qa h1 (by kernel_rfl) h3 (by kernel_rfl) h5 ht hk (Q:=Q) (by rw[e];exact hQ)
 rw[e] at h
 exact h
noncomputable abbrev JV(x:Int):PV:=eH (.str "integer") (.int true x) (.bool false false) (.int false 3)
noncomputable abbrev Lc(t:au)(f:Bool):PV:=Gg t [JV 1,JV 2] (.bool f false) (.int false 0)
noncomputable abbrev OO(t:au)(f:Bool):PV:=QS t [JV 1,JV 2] (.bool f false) (.int false 0) (.int true 0) (.int false 2) false false
theorem BO(c:Cx S){r:Int}{Rn fg gl mk:Bool}(hr:2≤r)(hq:∀ m t f,m.g=gl→m.r=r→m.c=1→m.n=1→m.u+m.w=16→Q (.ok (.lX [.loc 5,.pv (Lc t f),.loc 6,.loc 8])) ((9,.tab true)::(5,LN)::(3,Fq m)::(12,.fZ m.ex m.n)::wF [] (JV 5) (OO t f))):
  ao S (l+9) (fV 1004) [.pv (.int Rn r),.pv (.bool fg gl)] [] [(9,.tab mk)] Q:=by
 refine NT c [9,5,3,12,8,6,7] λA env fr en hc Qa=>?_
 refine se c en 35 (by kernel_rfl) ?_
 refine HL c (HS c (pS c (pS c (vJ c (m:=Nb r Rn) (show 2≤60000 by decide) hr (show(0:Int)+0+8*2≤16777216 by decide) (show 0≤60000 by decide) (λh=>(gy h)) λm hm t=>?_))))
 have hg:m.g=false:=hm.g
 rw[hg]
 refine Eg (en.ih c 35) en.ok rfl rfl (by decide) (by decide) ?_
 refine pS c ⟨_,rfl,F0 c (vs:=[JV 1,JV 2]) (show 2≤65535 by decide) ⟨_,rfl,?_⟩⟩
 refine bH (show[iS,lT].Nodup by decide) (bq 7 (bH rfl ?_))
 refine def_ c en hc Qa rfl rfl rfl rfl ?_
 exact Gq c (m:={m with fg:=fg,g:=gl}) (hq {m with fg:=fg,g:=gl} t m.fg rfl hm.r hm.c hm.n hm.u)
end
end
section
open MineH (KK bg mA)
section
variable{most:Int}{gl:Bool}
noncomputable def qm(bh:iR)(as:List (List UInt8))(a b:Nat)(X:Rd):Prop:=∃ more asks,X.1=more++bh∧X.2.1=asks++as∧more.length≤a∧asks.length≤b
theorem qm.same{bh:iR}{as:List (List UInt8)}{a b:Nat}{o:Option (List UInt8)}:qm bh as a b (bh,as,o):=⟨[],[],rfl,rfl,d7 _,d7 _⟩
theorem qm.ask{bh:iR}{as:List (List UInt8)}{a b:Nat}{w:List UInt8}{X:Rd}(h:qm bh (w::as) a b X):qm bh as a (b+1) X:=by
 refine E2_4 h λm z h1 h2 h3 h4=>?_
 exact⟨m,z++[w],h1,by rw[c_];exact h2,h3,by rw[aS];exact aH h4⟩
theorem qm.up{bh:iR}{as:List (List UInt8)}{a b a' b':Nat}{X:Rd}(h:qm bh as a b X)(ha:a≤a')(hb:b≤b'):qm bh as a' b' X:=by
 refine E2_4 h λm z h1 h2 h3 h4=>?_
 exact⟨m,z,h1,h2,aa h3 ha,aa h4 hb⟩
theorem lN(ts:TS):∀ (bh:iR) (fs:List FF) (as:List (List UInt8)),qm bh as ts.length ts.length (dN most gl ts bh fs as):=by
 induction ts with
 | nil=>intro bh fs as;cases fs <;> exact .same
 | cons p r ih=>
  intro bh fs as
  have put:∀ (fs:List FF) (c:FF→FF) (as:List (List UInt8)),qm bh as (r.length+1) r.length (xB (dN most gl r) bh fs c as):=λfs c as=>by
   cases fs with
   | nil=>
    refine E2_4 (ih ((c .nil,as.length)::bh) [] as) λm a h1 h2 h3 h4=>?_
    exact⟨m++[_],a,by rw[c_];exact h1,h2,by rw[aS];exact aH h3,h4⟩
   | cons f fs=>exact(ih bh _ as).up (cD _) (bf _)
  show qm bh as (r.length+1) (r.length+1) (zU most gl p.1.act (dN most gl r) bh fs as)
  cases p.1.act with
  | op=>exact(ih bh _ as).up (cD _) (cD _)
  | lf k=>exact(put fs (λr=>.lf r k) as).up (bf _) (cD _)
  | gS=>exact(put fs (λr=>.lf r .gS) (iS::as)).ask
  | row=>exact(put fs (λr=>.row r) (lT::as)).ask
  | fault=>exact .same
  | none w=>exact qm.ask (b:=r.length) .same
  | cl=>
   cases fs with
   | nil=>exact .same
   | cons f fs=>
    show qm bh as _ _ (cond (decide (most<f.len)) _ (cond (gl&&f.gf) _ _))
    cases decide (most<f.len) with
    | true=>exact .same
    | false=>
     cases gl&&f.gf with
     | true=>exact .same
     | false=>exact(put fs (λr=>.pr r f) as).up (bf _) (cD _)
noncomputable def LO(fs:List FF):Nat:=bA (motive:=λz_=>Nat) 0 (λf z_ n=>f.sz+n) fs
theorem Gh{N:Nat}(ts:TS):∀ (bh:iR) (fs:List FF) (as:List (List UInt8)),LO fs+ts.length≤N→(∀ t ∈ bh,t.1.sz≤N)→∀ t ∈ (dN most gl ts bh fs as).1,t.1.sz≤N:=by
 induction ts with
 | nil=>intro bh fs as _ h;cases fs <;> exact h
 | cons p r ih=>
  intro bh fs as hn h
  have h1:LO fs+1+r.length≤N:=by rw[pB];exact hn
  have put:∀ (fs:List FF) (c:FF→FF) (as:List (List UInt8)) (k:Nat),(∀ f,(c f).sz=f.sz+k)→LO fs+k+r.length≤N→∀ t ∈ (xB (dN most gl r) bh fs c as).1,t.1.sz≤N:=λfs c as k hc hk=>by
   cases fs with
   | nil=>
    refine ih _ _ _ (aa (bD (d7 (0+k)) _) hk) λt ht=>?_
    rcases ay.mp ht with rfl | ht
    ·show(c .nil).sz≤N
     rw[hc];exact aa (aT _ _) hk
    ·exact h t ht
   | cons f fs=>
    exact ih _ _ _ (by show(c f).sz+LO fs+_≤_;rw[hc,pB f.sz];exact hk) h
  show∀ t ∈ (zU most gl p.1.act (dN most gl r) bh fs as).1,t.1.sz≤N
  cases p.1.act with
  | op=>exact ih bh _ as (by show 0+LO fs+_≤_;rw[eG];exact a_ hn) h
  | lf k=>exact put fs (λr=>.lf r k) as 1 (λz_=>rfl) h1
  | gS=>exact put fs (λr=>.lf r .gS) _ 1 (λz_=>rfl) h1
  | row=>exact put fs (λr=>.row r) _ 1 (λz_=>rfl) h1
  | fault=>exact h
  | none w=>exact h
  | cl=>
   cases fs with
   | nil=>exact h
   | cons f fs=>
    show∀ t ∈ (cond (decide (most<f.len)) _ (cond (gl&&f.gf) _ _):Rd).1,t.1.sz≤N
    cases decide (most<f.len) with
    | true=>exact h
    | false=>
     cases gl&&f.gf with
     | true=>exact h
     | false=>exact put fs (λr=>.pr r f) as (f.sz+1) (λz_=>rfl) (by rw[lF (LO fs),pB f.sz,pB];exact hn)
theorem EC(f:FF):f.dp≤f.sz:=by
 induction f with
 | nil=>exact bf _
 | lf r q ih=>exact bM ih
 | row r ih=>exact bM ih
 | pr r g ih1 ih2=>exact Nat.max_le.mpr ⟨aa ih1 (aa (aT _ _) (cD _)),aH (aa ih2 (dz _ _))⟩
theorem Bo{ts:TS}{bh:iR}{as:List (List UInt8)}{R:Rd}(e:dN most gl ts bh [] as=R){f:FF}{n:Nat}(h:R.1.reverse[bh.length]? =some (f,n)):∃ r as',fK most gl ts [] as= .top f r as'∧n=as'.length∧dN most gl r ((f,as'.length)::bh) [] as'=R∧r.length<ts.length:=by
 rw[xF] at e
 cases q:fK most gl ts [] as with
 | top g r as'=>
  rw[q] at e
  have e:dN most gl r ((g,as'.length)::bh) [] as'=R:=e
  refine E2_4 (lN (most:=most) (gl:=gl) r ((g,as'.length)::bh) [] as') λmore asks h1 z_ z_ z_=>?_
  rw[e] at h1
  rw[h1,iu,cO,c_,jz (by rw[av];exact bf _),av,Nat.sub_self] at h
  cases h
  exact⟨r,as',rfl,rfl,e,zH ts q⟩
 | err x as'=>
  rw[q] at e
  have e:(bh,as',some x)=R:=e
  rw[←e,eZ (by rw[av];exact bf _)] at h
  exact bR h
 | fin as'=>
  rw[q] at e
  have e:(bh,as',none)=R:=e
  rw[←e,eZ (by rw[av];exact bf _)] at h
  exact bR h
theorem Bm{ts:TS}{bh:iR}{as:List (List UInt8)}{R:Rd}(e:dN most gl ts bh [] as=R)(h:bh.length=R.1.length):(∃ as',fK most gl ts [] as= .fin as'∧R=(bh,as',none))∨∃ x as',fK most gl ts [] as= .err x as'∧R=(bh,as',some x):=by
 rw[xF] at e
 cases q:fK most gl ts [] as with
 | top g r as'=>
  rw[q] at e
  have e:dN most gl r ((g,as'.length)::bh) [] as'=R:=e
  refine E2_4 (lN (most:=most) (gl:=gl) r ((g,as'.length)::bh) [] as') λmore asks h1 z_ z_ z_=>?_
  rw[e] at h1
  rw[h1,aS,bE] at h
  exact absurd h (fy (dz _ _))
 | err x as'=>rw[q] at e;exact .inr ⟨x,as',rfl,e.symm⟩
 | fin as'=>rw[q] at e;exact .inl ⟨as',rfl,e.symm⟩
end
section
variable{rw:PV}{pk gl:Bool}
theorem Tells.single{v:PV}{f:FF}{ns:List Nat}(h:Tells rw pk gl [v] f ns):f ∈ f.its:=by
 cases h with
 | lf h _=>cases h;exact .head _
 | row h=>cases h;exact .head _
 | pr h _=>cases h;exact .head _
theorem Tells.many{vs:List PV}{f:FF}{ns:List Nat}(h:Tells rw pk gl vs f ns):ns.length≤f.sz:=by
 induction h with
 | nil=>exact bf _
 | lf _ _ ih=>exact bM ih
 | row _ ih=>exact bM ih
 | @pr vs ws f g ns ms t i fl _ _ ih1 ih2=>rw[aS,bE];exact aH (dR ih1 ih2)
theorem zM{f:FF}(h:f ∈ f.its):∃ ds,g9 pk f= .tup ds:=by
 cases f with
 | nil=>exact jd h
 | lf r q=>cases q <;> exact⟨_,rfl⟩
 | row r=>exact⟨_,rfl⟩
 | pr r g=>cases pk <;> exact⟨_,rfl⟩
theorem Eqv.is_tup{n:Nat}{w:PV}{ds:List PV}(h:Eqv n w (.tup ds)):∃ ws,w= .tup ws:=by
 have h:=h (n+1) (cD _)
 cases w with
 | tup ws=>exact⟨ws,rfl⟩
 | _=>exact bR h
end
section
variable{S:Sx}{l l':Nat}{fv:MV}{args:List MV}{kw:List (Str×MV)}{F:br}{Q:Res MV→br→Prop}
theorem ao.up(h:ao S l fv args kw F Q)(hl:l≤l'):ao S l' fv args kw F Q:=
 ⟨λA fr n v vs kvs g d tk os R' room=>h.run A fr n v vs kvs g d tk os R' ⟨room.frames,aa (bw (dK 3 hl) _) room.depth,aa (bw (dK 24 hl) _) room.units⟩⟩
variable{t:au}{rs bs:List PV}{g lv s mn:PV}{f1 f2 pk gl fp:Bool}{f:FF}{v:PV}{ns:List Nat}{ds:List PV}
theorem GN(c:Cx S)(hz:f.sz≤100)(ht:Tells (QS t rs g lv s mn f1 f2) pk gl [v] f ns)(hn:∀ m ∈ ns,m≠1)(hl:2*f.dp+3≤l)(hb:ns.length+bs.length≤59001)(hd:g9 pk f= .tup ds)(hq:∀ ws,Eqv (2*f.dp+1) (.tup ws) (.tup ds)→Q (.ok (.pv (.tup ws))) (uz ((jC ns).reverse++bs))):
  ao S l (fV 997) [.pv v,.pv (Gg t rs g lv),.loc 10] [] (uz bs) Q:=
 (Og c f (aa hz (by decide)) v f ns f.dp ht.single ht hn (bf _) bs Q hb λw hw=>by
  rw[hd] at hw
  refine E1_1 hw.is_tup λws nV=>?_
  subst nV
  exact hq ws hw).up hl
theorem I9(c:Cx S)(hz:f.sz≤100)(hf:f ∈ f.its)(hl:2*f.dp+1≤l)(hq:Q (.ok (.pv (g9 pk f))) []):ao S l (fV 992) [.pv (kR f),.pv (.bool fp pk)] [] [] Q:=
 (Pq c f (aa hz (by decide)) f hf f.dp Q (bf _) hq).up hl
theorem Mr(c:Cx S)(hz:f.sz≤100)(hf:f ∈ f.its)(hl:2*f.dp+1≤l)(hd:g9 pk f= .tup ds)(hq:Q (.ok (.pv (.tup ds))) []):ao S l (fV 992) [.pv (kR f),.pv (.bool fp pk)] [] [] Q:=
 I9 c hz hf hl (hd▸hq)
end
theorem mu.Lb{n:Nat}(as:List (List UInt8)):mu n (iy as) (iy as):=by
 induction as with
 | nil=>exact .nil
 | cons a as ih=>exact .cons .bytes ih
theorem qj{k:Nat}(as:List (List UInt8)):zF k (iy as).reverse (iy as).reverse=some true:=by
 have h:=Eqv.list (mu.Lb (n:=0) as.reverse) (k+1) (aH (d7 _))
 rw[show(iy as).reverse=iy as.reverse from dY.symm]
 exact h
theorem BN{k:Nat}{all as asks:List (List UInt8)}(h:all=asks++as):zF k (iy as).reverse ((iy all).reverse.take as.length)=some true:=by
 have e:(iy all).reverse.take as.length=(iy as).reverse:=by
  rw[h,show iy (asks++as)=iy asks++iy as from b_,iu,show as.length=(iy as).reverse.length by rw[av,aC],List.take_left]
 rw[e];exact qj as
end
section
open MineH (KK bg mA)
section
variable{S:Sx}{l:Nat}{Q:Res MV→br→Prop}
noncomputable def Q2(Q:Res MV→br→Prop)(r:Res MV)(F:br):Prop:=match r with
 | .ok (.pv (.bool f b))=>b=true∧Q (.ok (bV true)) F
 | _=>False
theorem ao.yes{fv:MV}{args:List MV}{kw:List (Str×MV)}{F:br}(h:ao S l fv args kw F (Q2 Q)):ao S l fv args kw F Q:=
 h.conv (λz_ z_ h=>h) (λm F' hq=>by
  cases m with
  | pv p=>cases p with
   | bool f b=>
    obtain⟨rfl,hq⟩:=hq
    exact⟨_,hq,λX v hv=>by cases vBool hv;exact .pv .bool⟩
   | _=>exact hq.elim
  | _=>exact hq.elim) λt F' hq=>hq.elim
section
variable{kr vr er ar:PV}{fp pk gl f5:Bool}{most:Int}{m:Mem}{bs:List UInt8}{p:Nat}{as:List (List UInt8)}{ts:TS}{t:PV}
theorem DR(c:Cx S)(hz:bs.length≤aB)(hrw:Loc (eH kr vr er ar) true)(hf:qk most gl m ts as)(yO:cM 8 (bs.drop p)=some (eU ts))(hl:ts.length≤100){f:FF}{r:TS}{as':List (List UInt8)}(e:fK most gl ts [] as= .top f r as')
  (hq:∀ k v e z p' t' m' ns,Tells (eH kr vr er ar) pk gl [eH k v e z] f ns→u9 m.c m'.c ns→m.c≤m'.c→cM 8 (bs.drop p')=some (eU r)→qk most gl m' r as'→Q (.ok (.pv (eH k v e z))) (dP m' bs p' t' (iy as') (fD f5) (eH kr vr er ar))):
  ao S (l+14) (fV 585) [.loc 5,.loc 2,.pv (.bool fp pk),.loc 8] [] (dP m bs p t (iy as) (fD f5) (eH kr vr er ar)) Q:=
 xX c hz hrw hf yO hl (by rw[e];exact hq)
theorem DP(c:Cx S)(hz:bs.length≤aB)(hrw:Loc (eH kr vr er ar) true)(hf:qk most gl m ts as)(yO:cM 8 (bs.drop p)=some (eU ts))(hl:ts.length≤100){x:List UInt8}{as':List (List UInt8)}(e:fK most gl ts [] as= .err x as')
  (hq:∀ p' t' m',Q (.exc x) (dP m' bs p' t' (iy as') (fD f5) (eH kr vr er ar))):
  ao S (l+14) (fV 585) [.loc 5,.loc 2,.pv (.bool fp pk),.loc 8] [] (dP m bs p t (iy as) (fD f5) (eH kr vr er ar)) Q:=
 xX c hz hrw hf yO hl (by rw[e];exact hq)
theorem DQ(c:Cx S)(hz:bs.length≤aB)(hrw:Loc (eH kr vr er ar) true)(hf:qk most gl m ts as)(yO:cM 8 (bs.drop p)=some (eU ts))(hl:ts.length≤100){as':List (List UInt8)}(e:fK most gl ts [] as= .fin as')
  (hq:∀ p' t' m',Q (.ok (.pv .none)) (dP m' bs p' t' (iy as') (fD f5) (eH kr vr er ar))):
  ao S (l+14) (fV 585) [.loc 5,.loc 2,.pv (.bool fp pk),.loc 8] [] (dP m bs p t (iy as) (fD f5) (eH kr vr er ar)) Q:=
 xX c hz hrw hf yO hl (by rw[e];exact hq)
end
structure O5 where
 p:Nat
 t:PV
 m:Mem
 as:List (List UInt8)
 ts:TS
 N:List Nat
 bd:List PV
 bh:iR
structure LU where
 ts:TS
 R:Rd
 fO:List Bool
 f1:Bool
 r:Int
 f2:Bool
 gl:Bool
noncomputable abbrev Qy(k:LU)(t:au)(f:Bool)(fv:PV)(s:O5):St:=⟨[("octets",.pv (.bytes false (eU k.ts))),("due",.pv (wG k.R)),("flags",.pv (.list (k.fO.map (PV.bool false)))),("most",.pv (.int k.f1 k.r)),("is_global",.pv (.bool k.f2 k.gl)),("tops",.pv (.list (mq k.R.1).reverse)),("words",.pv (.list (iy k.R.2.1).reverse)),("fault",.pv fv),("bodies",.loc 10),("scanner",.loc 5),("row",.pv (Lc t f)),("asked",.loc 6),("lookup",.loc 8),("source",.loc 2)],
 [(2,rQ (eU k.ts) s.p s.t),(9,.tab true),(5,LN),(3,Fq s.m),(12,.fZ s.m.ex s.m.n),(8,.clos 6 7),(6,.list (iy s.as)),(7,.iT (LI (JV 5) (OO t f))),(10,.list s.bd)],[2,5,3,12,8,6,7,10,9],[]⟩
structure LV(k:LU)(i:Nat)(s:O5):Prop where
 j:s.bh.length=i
 e:dN k.r k.gl s.ts s.bh [] s.as=k.R
 fit:qk k.r k.gl s.m s.ts s.as
 sk:cM 8 ((eU k.ts).drop s.p)=some (eU s.ts)
 NR:u9 1 s.m.c s.N
 c:1≤s.m.c
 l:s.ts.length+i≤28
 n:s.N.length≤28*i
 b:s.bd=(jC s.N).reverse
theorem IQ(c:Cx S){f:Fx}{sc:List (Str×aE)}{σ:St}(en:En S f sc)(k:Nat){body hb:List dO}{b₀:dO}{nm:Str}{np hpos pos:Pos}{Q:Res cj→St→Prop}(hsc:lk sc "PsError"=some .globalImplicit)(hnm:lk sc nm=some .local)
  (h:(oq S f PG sc k).exs body σ (Oo S f PG sc k nm (b₀::hb) Q)):gE S f (.Try body [.ExceptHandler (some (.Name "PsError" np)) (some nm) (b₀::hb) hpos] [] [] pos) σ Q:=
 Ls c.ok (en.ih c k) en.ok en.nodup c.pg en.names en.frame en.own c.exc (by kernel_rfl) hsc (by kernel_rfl) hnm h
theorem yg(N:List Nat):allInts (jC N)=some (N.map λn:Nat=>(n:Int)):=by
 induction N with
 | nil=>rfl
 | cons n N ih=>
  show aF (allInts (jC N)) (λq=>some ((n:Int)::q)) none=_
  rw[ih];rfl
theorem IP{R:Rd}{i:Nat}{x:PV}(h:(mq R.1).reverse[i]? =some x):∃ f n,R.1.reverse[i]? =some (f,n)∧ .tup [kR f,.int false n]=x:=by
 rw[show(mq R.1).reverse=R.1.reverse.map (λt=>PV.tup [kR t.1,.int false t.2]) from dY.symm,fH] at h
 cases q:R.1.reverse[i]? with
 | none=>rw[q] at h;exact bR h
 | some p=>rw[q] at h;exact⟨p.1,p.2,rfl,aK h⟩
theorem EO{fO:List Bool}{i:Nat}{x:PV}(h:(fO.map (PV.bool false))[i]? =some x):∃ b,.bool false b=x:=by
 rw[fH] at h
 cases q:fO[i]? with
 | none=>rw[q] at h;exact bR h
 | some p=>rw[q] at h;exact⟨p,aK h⟩
theorem readP_28{r:Int}{gl:Bool}{ts:TS}{R:Rd}(e0:dN r gl ts [] [] []=R)(hn:ts.length≤28):R.1.length≤28∧R.2.1.length≤28∧∀ p ∈ R.1,p.1.sz≤28:=by
 subst e0
 refine⟨?_,?_,Gh ts [] [] [] (aa (aQ (eG _)) hn) λz_ h=>(jd h)⟩
 ·exact E2_4 (lN ts [] [] []) λmore asks b1 b2 b3 b4=>by rw[b1,dw];exact aa b3 hn
 ·exact E2_4 (lN ts [] [] []) λmore asks b1 b2 b3 b4=>by rw[b2,dw];exact aa b4 hn
theorem Kq{r:Int}{gl:Bool}{m:Mem}{ts:TS}(hg:jF ts)(hn:ts.length≤28)(h1:m.g=gl)(h2:m.r=r)(h3:m.n=1)(h4:m.u+m.w=16):qk r gl m ts []:=
 ⟨hg,h1,h2,aa (aQ (eG _)) (aa hn (by decide)),aa (dR (aQ h3) hn) (by decide),bF (Int.add_le_add (lC h4) (Int.mul_le_mul_of_nonneg_left (iN.mpr hn) (by decide))) (by decide)⟩
theorem Pp{d z k n:Nat}(h:d≤z)(hz:z≤28)(e:56+k≤n):2*d+k≤n:=aa (bD (dK 2 (aa h hz)) k) e
theorem OD{d z k n:Nat}(h:d≤z)(hz:z≤28)(e:56+k≤n):2*d+k≤l+n:=aa (Pp h hz e) (dz n l)
theorem Rg{n b j z:Nat}(h1:n≤z)(hz:z≤28)(h2:b≤28*j)(hj:j≤28):n+b≤59001:=aa (dR (aa h1 hz) (aa h2 (dK 28 hj))) (by decide)
variable{k:LU}
theorem LV.next{i:Nat}{s:O5}(h:LV k i s){f:FF}{r:TS}{as':List (List UInt8)}{m':Mem}{p':Nat}{t':PV}{ns:List Nat}(e:dN k.r k.gl r ((f,as'.length)::s.bh) [] as'=k.R)(hlt:r.length<s.ts.length)(hn:ns.length≤28)(OI:u9 s.m.c m'.c ns)(OG:s.m.c≤m'.c)
  (sk:cM 8 ((eU k.ts).drop p')=some (eU r))(fit:qk k.r k.gl m' r as'):LV k (i+1) ⟨p',t',m',as',r,s.N++ns,(jC ns).reverse++s.bd,(f,as'.length)::s.bh⟩:=
 ⟨congrArg (·+1) h.j,e,fit,sk,h.NR.app h.c OG OI,aa h.c OG,aa (aQ (Nat.succ_add _ i).symm) (aa (bD hlt i) h.l),aa (aQ aS) (dR h.n hn),
  by show _=(jC (s.N++ns)).reverse;rw[h.b,show jC (s.N++ns)=jC s.N++jC ns from b_,iu]⟩
theorem Qz(c:Cx S){mk:Bool}(hr:2≤k.r)(hg:jF k.ts)(hn:k.ts.length≤28)(e0:dN k.r k.gl k.ts [] [] []=k.R)(hf:k.fO.length=k.R.1.length+1)(hz:(eU k.ts).length≤65535)(hq:Q (.ok (bV true)) [(9,.tab true)]):
  ao S (l+62) (fV 1009) [.pv (.bytes false (eU k.ts)),.pv (wG k.R),.pv (.list (k.fO.map (PV.bool false))),.pv (.int k.f1 k.r),.pv (.bool k.f2 k.gl)] [] [(9,.tab mk)] Q:=by
 have LF:=readP_28 e0 hn
 have hsz:=LF.2.2
 have hz':(eU k.ts).length≤aB:=aa hz (cB rfl)
 refine ao.yes (bO c (F1009_5 c) rfl rfl λA env fr en=>?_)
 intro f_ K_
 refine se c en 35 (by kernel_rfl) ?_
 refine BO c hr λm t f hm1 hm2 MG MH MI=>xP c (pP c en 37 ?_)
 have wz:k.R.2.1.length≤65535:=aa LF.2.1 (by decide)
 have zf:aO (k.fO.map (PV.bool false)).length aB=true:=cA (by rw[aC,hf];exact aa (aH LF.1) (by decide))
 obtain⟨b,hb⟩:∃ b,(k.fO.map (PV.bool false)).getLast? =some (.bool false b):=by
  cases q:k.fO.getLast? with
  | none=>rw[List.getLast?_eq_none_iff.mp q] at hf;exact nomatch hf
  | some b=>exact⟨b,by rw[List.getLast?_map,q];rfl⟩
 have i0:LV k 0 ⟨0,.bool true false,m,[],k.ts,[],[],[]⟩:=⟨rfl,e0,Kq hg hn hm1 hm2 MH MI,gi (sf hg),⟨jA,λz_ h=>(jd h)⟩,aQ MG.symm,hn,bf _,rfl⟩
 refine pQ (Qy k t f (wN k.R.2.2)) (LV k) (a:=⟨0,.bool true false,m,[],k.ts,[],[],[]⟩) i0 (λi s x hx hi=>?_) (λs hi=>?_) rfl
 ·intro L_ T_
  refine E2_3 (ux hx) λpp q eV h1 h2=>?_
  subst eV
  refine E2_2 (IP h1) λf0 n0 h3 rU=>?_
  subst rU
  refine E1_1 (EO h2) λb nV=>?_
  subst nV
  have Ai:f0.sz≤28:=hsz (f0,n0) (cI.mp (bI h3))
  rw[←hi.j] at h3
  refine E2_4 (Bo hi.e h3) λr' as' hT rU e' hlt=>?_
  subst rU
  have hl:=hi.l
  have bl:s.bd.length≤28*i:=by rw[hi.b,av,aC];exact hi.n
  have dp:=EC f0
  refine E2_4 (lN (most:=k.r) (gl:=k.gl) r' ((f0,as'.length)::s.bh) [] as') λmore asks z_ wd z_ z_=>?_
  rw[e'] at wd
  refine DR c (pk:=b) hz' .row hi.fit hi.sk (aa (aa (aT _ _) hl) (by decide)) hT λkk v e z p' t' m' ns ht OI OG sk' PJ=>?_
  have nl:=ht.many
  have hd:=(zM (pk:=b) ht.single).choose_spec
  refine GN c (l:=l+60) (aa Ai (by decide)) ht (λm hm=>oG (aY hi.c (OI.mem m hm).1)) (OD dp Ai (by decide)) (Rg nl Ai bl (aa (dz _ _) hl)) hd λws hw=>?_
  refine Mr c (l:=l+60) (aa Ai (by decide)) ht.single (OD dp Ai (by decide)) hd (bq true (bH (hw 60 (Pp dp Ai (by decide))) ?_))
  refine aR ?_ (bq true (bH (BN wd) ?_))
  ·have zw:aO (iy k.R.2.1).reverse.length aB=true:=cA (by rw[av,kT];exact wz)
   show(true&&decide (0≤(as'.length:Int))&&aO (iy k.R.2.1).reverse.length aB)=true
   rw[zw,decide_eq_true (cu as'.length)];rfl
  ·exact cU ⟨p',t',m',as',r',s.N++ns,(jC ns).reverse++s.bd,(f0,as'.length)::s.bh⟩ [("top",_),("many",_),("is_packing",_),("thing",_)] rfl rfl (hi.next e' hlt (aa nl Ai) OI OG sk' PJ)
 ·have hj:s.bh.length=k.R.1.length:=by
   have e:=hi.j
   rw[uy,av,aC,aC,hf] at e
   exact e.trans (nN (cD _))
  have hl:=aa (aa (aT _ _) hi.l) (show 28≤100 by decide)
  rcases Bm hi.e hj with ⟨as',hT,e⟩ | ⟨x,as',hT,e⟩
  ·have hv:wN k.R.2.2= .none:=by rw[e]
   rw[hv]
   refine IQ c en 36 rfl rfl ?_
   refine aR zf (bq _ (bH hb (DQ c (pk:=b) hz' .row hi.fit hi.sk hl hT λp' t' m'=>?_)))
   have bl:s.bd.length≤65535:=by
    rw[hi.b,av,aC];exact aa hi.n (aa (dK 28 (aa (dz _ _) hi.l)) (by decide))
   have zb:=cA bl
   refine Ez (k:=41) (b:=10) (rev:=s.bd) (is:=s.N.map λn:Nat=>(n:Int)) c.ok en.ok c.pg (jJ _) en.names (by kernel_rfl) (by decide) rfl (by decide) (by decide) (by decide) (bH rfl rfl) rfl (by rw[hi.b,dZ];exact yg _) (hi.NR.nd.map _ λa b h e=>h (Int.ofNat.inj e)) (cB zb) rfl (aR zb (aR zb ?_))
   exact bH (decide_eq_true rfl) hq
  ·have hv:wN k.R.2.2= .bytes true x:=by rw[e]
   rw[hv]
   have wd:=qj (k:=60) as'
   rw[show as'=k.R.2.1 by rw[e]] at wd hT
   refine IQ c en 36 rfl rfl ?_
   refine aR zf (bq _ (bH hb (DP c (pk:=b) hz' .row hi.fit hi.sk hl hT λp' t' m' f₂ Hz=>lq (beq_self_eq_true x) (bq true (bH wd (bH rfl hq))))))
end
end
section
open MineH (KK bg mA)
section
variable{rw:PV}{pk gl:Bool}
theorem pC.get{vs:List PV}{ts:iR}(h:pC rw pk gl vs ts):∀ {j:Nat}{v:PV},vs.reverse[j]? =some v→∃ f n ns,ts.reverse[j]? =some (f,n)∧Tells rw pk gl [v] f ns∧∀ m ∈ ns,m≠1:=by
 induction h with
 | nil=>intro j v h;exact bR h
 | @cons vs ts v f n ns ht hv hn ih=>
  intro j w h
  rw[cO] at h ⊢
  rcases fq j vs.reverse.length with q | q
  ·rw[qn q] at h
   rw[qn (by rw[av, ←ht.len];rw[av] at q;exact q)]
   exact ih h
  ·rw[jz q] at h
   rw[jz (by rw[av, ←ht.len];rw[av] at q;exact q)]
   have e:j-vs.reverse.length=0:=by
    rcases Nat.eq_zero_or_pos (j-vs.reverse.length) with e | e
    ·exact e
    ·rw[eZ (by rw[l9];exact e)] at h;exact bR h
   rw[e] at h
   cases h
   rw[show j-ts.reverse.length=0 by rw[←e,av,av,ht.len]]
   exact⟨f,n,ns,rfl,hv,hn⟩
end
section
variable{S:Sx}{l:Nat}{Q:Res MV→br→Prop}{k:LU}
structure OV(b:Bool)(T:iR)(j:Nat)(ys bd:List PV):Prop where
 e:mu 57 ys ((T.take j).map λt=>g9 b t.1)
 n:bd.length≤28*j
variable{ts:TS}{T:iR}{W:List (List UInt8)}{r:Int}{f1 f2 fp b gl mk:Bool}
theorem J0(c:Cx S)(hr:2≤r)(hg:jF ts)(hn:ts.length≤28)(e0:dN r gl ts [] [] []=(T,W,none))(hz:(eU ts).length≤65535)(hq:Q (.ok (bV true)) [(9,.tab true)]):
  ao S (l+64) (fV 1014) [.pv (.bytes false (eU ts)),.pv (.tup [.list (mq T).reverse,.list (iy W).reverse,.none]),.pv (.bool fp b),.pv (.int f1 r),.pv (.bool f2 gl)] [] [(9,.tab mk)] Q:=by
 have LF:=readP_28 e0 hn
 have hsz:=LF.2.2
 have tz:T.length≤28:=LF.1
 have hz':(eU ts).length≤aB:=aa hz (cB rfl)
 refine ao.yes (bO c (F1014_5 c) rfl rfl λA env fr en=>?_)
 refine se c en 35 (by kernel_rfl) ?_
 refine BO c hr λm t f hm1 hm2 MG MH MI=>?_
 have fit:qk r gl m ts []:=Kq hg hn hm1 hm2 MH MI
 refine IQ c en 36 rfl rfl (xP c (CK c (m:=m) (p:=0) (as:=[]) (most:=r) (pk:=b) (aQ MG.symm) hz' .row fit (gi (sf hg)) (aa hn (by decide)) (λvs bh as' p' t' m' e ht=>?_) λx bh as' p' t' m' e=>absurd (e0.symm.trans e) λe=>(nomatch e)))
 have e1:(T,W,none)=(bh,as',none):=e0.symm.trans e
 have eT:bh=T:=(congrArg (·.1) e1).symm
 have wd:zF 60 (iy as').reverse (iy W).reverse=some true:=by rw[show as'=W from(congrArg (·.2.1) e1).symm];exact qj W
 rw[eT] at ht
 refine qt c en 35 35 (by kernel_rfl) (by kernel_rfl) (by kernel_rfl) ?_
 refine qx (λbd:List PV=>⟨[("bodies",.loc 10),("row",.pv (Lc t f))],dP m' (eU ts) p' t' (iy as') (fD true) (OO t f)++[(9,.tab true),(10,.list bd)],[2,5,3,12,8,6,7,10,9],[]⟩) (OV b T.reverse) (a:=[]) (by rw[av,ht.len];exact aa tz (by decide)) rfl rfl ⟨.nil,bf _⟩ (λA' env' uA j ys bd x hx hi=>?_) (λys bd h=>?_)
 ·refine E3_3 (ht.get hx) λf0 n0 ns h3 h1 h2=>?_
  have Ai:f0.sz≤28:=hsz (f0,n0) (cI.mp (bI h3))
  have dp:=EC f0
  have nl:=h1.many
  have bn:=hi.n
  have jl:j<T.length:=by
   rcases fq j T.length with q | q
   ·exact q
   ·rw[eZ (by rw[av];exact q)] at h3;exact bR h3
  have hd:=(zM (pk:=b) h1.single).choose_spec
  refine GN c (l:=l+62) (aa Ai (by decide)) h1 h2 (OD dp Ai (by decide)) (Rg nl Ai bn (aa (eB jl) tz)) hd λws hw=>⟨_,rfl,cU ((jC ns).reverse++bd) [("thing",.pv x)] rfl rfl ⟨?_,?_⟩⟩
  ·rw[fJ,h3,kJ,b_]
   exact hi.e.app (show Eqv 57 _ (g9 b f0) by rw[hd];exact hw.up (Pp dp Ai (by decide)))
  ·rw[aS,av,aC,lF];exact dR bn (aa nl Ai)
 ·have h1:=h.e
  rw[av,ht.len, ←av (as:=T),e_] at h1
  refine bq true (bH wd ?_)
  refine yx c en 31 31 (by kernel_rfl) (by kernel_rfl) ?_
  refine lG T.reverse (λt=>.tup [kR t.1,.int false t.2]) (λt=>g9 b t.1) ⟨[("is_packing",.pv (.bool fp b))],dP m' (eU ts) p' t' (iy as') (fD true) (OO t f)++[(9,.tab true),(10,.list bd)],[2,5,3,12,8,6,7,10,9],[]⟩ (dY.symm) (by rw[av];exact aa tz (by decide)) rfl rfl (λA' env' uA i ys x hx hi=>?_) ?_
  ·have hm:=bI hx
   have Ai:x.1.sz≤28:=hsz x (cI.mp hm)
   have dp:=EC x.1
   have hs:x.1 ∈ x.1.its:=by
    have il:i<vs.reverse.length:=by
     have:=(bW.mp hx).1
     rw[av,ht.len, ←av (as:=T)];exact this
    refine E3_3 (ht.get (cX il)) λf0 n0 ns h3 h4 z_=>?_
    rw[hx] at h3
    cases h3
    exact h4.single
   exact I9 c (l:=l+62) (aa Ai (by decide)) hs (OD dp Ai (by decide)) ⟨_,rfl,cU () [("top",_),("many",_)] rfl rfl (Dj hi hx)⟩
  ·exact bq true (bH ((Eqv.list h1) 60 (by decide)) (bH rfl hq))
theorem GX(c:Cx S){x:List UInt8}(hr:2≤r)(hg:jF ts)(hn:ts.length≤28)(e0:dN r gl ts [] [] []=(T,W,some x))(hz:(eU ts).length≤65535)(hq:Q (.ok (bV true)) [(9,.tab true)]):
  ao S (l+64) (fV 1014) [.pv (.bytes false (eU ts)),.pv (.tup [.list (mq T).reverse,.list (iy W).reverse,.bytes true x]),.pv (.bool fp b),.pv (.int f1 r),.pv (.bool f2 gl)] [] [(9,.tab mk)] Q:=by
 have hz':(eU ts).length≤aB:=aa hz (cB rfl)
 refine ao.yes (bO c (F1014_5 c) rfl rfl λA env fr en=>?_)
 refine se c en 35 (by kernel_rfl) ?_
 refine BO c hr λm t f hm1 hm2 MG MH MI=>?_
 have fit:qk r gl m ts []:=Kq hg hn hm1 hm2 MH MI
 refine IQ c en 36 rfl rfl (xP c (CK c (m:=m) (p:=0) (as:=[]) (most:=r) (pk:=b) (aQ MG.symm) hz' .row fit (gi (sf hg)) (aa hn (by decide)) (λvs bh as' p' t' m' e ht=>absurd (e0.symm.trans e) λe=>(nomatch e)) λy bh as' p' t' m' e f₂ Hz=>?_))
 have e1:(T,W,some x)=(bh,as',some y):=e0.symm.trans e
 have ey:(y == x)=true:=by rw[aK (congrArg (·.2.2) e1)];exact beq_self_eq_true y
 have wd:zF 60 (iy as').reverse (iy W).reverse=some true:=by rw[show as'=W from(congrArg (·.2.1) e1).symm];exact qj W
 exact lq ey (bq true (bH wd (bH rfl hq)))
theorem O_(c:Cx S)(hr:2≤r)(hg:jF ts)(hn:ts.length≤28){R:Rd}(e0:dN r gl ts [] [] []=R)(hz:(eU ts).length≤65535)(hq:Q (.ok (bV true)) [(9,.tab true)]):
  ao S (l+64) (fV 1014) [.pv (.bytes false (eU ts)),.pv (wG R),.pv (.bool fp b),.pv (.int f1 r),.pv (.bool f2 gl)] [] [(9,.tab mk)] Q:=by
 obtain⟨T,W,o⟩:=R
 cases o with
 | none=>exact J0 c hr hg hn e0 hz hq
 | some x=>exact GX c hr hg hn e0 hz hq
end
end
section
open MineH (KK bg mA)
theorem Dr(ts:TS):(ts.map λp=>p.1.oct++sep p.2).flatten=eU ts:=by
 induction ts with
 | nil=>rfl
 | cons p ts ih=>rw[cG,lE,ih,c_];rfl
theorem Cz{k:Nat}(h:k<6):(sep k).length≤5:=(show∀ k,k<6→(sep k).length≤5 by decide) k h
theorem Cn{t:Tok}(h:t.good):t.oct.length≤130:=by
 cases t with
 | long n e=>
  have h':n≤129:=h.2
  cases e with
  | true=>show(aI n (110:UInt8)).length≤130;rw[cL];exact bM h'
  | false=>show(aI n (110:UInt8)).length+1≤130;rw[cL];exact aH h'
 | _=>exact of_decide_eq_true rfl
theorem FY{ts:TS}(h:jF ts):(eU ts).length≤135*ts.length:=by
 induction ts with
 | nil=>exact bf _
 | cons p ts ih=>
  have g:=h p (.head _)
  have i:=ih λq hq=>h q (.tail _ hq)
  show(p.1.oct++(sep p.2++eU ts)).length≤135*(ts.length+1)
  rw[aS,aS]
  exact aa (dR (Cn g.tok) (dR (Cz g.sep) i)) (aQ ((j3 130 5 _).symm.trans (lF _ _)))
theorem DO(t:Tok):∃ f y,kL t= .tup [.bytes f t.oct,y]:=by
 cases t <;> exact⟨_,_,rfl⟩
section
variable{S:Sx}{l:Nat}{Q:Res MV→br→Prop}{fv:MV}{args:List MV}{kw:List (Str×MV)}
theorem ao.Pn{cs:List Int}{a:Nat}{fl:Bool}(h:ao S l fv args kw (D0 cs a) Q):ao S l fv args kw [(1,.ja [("cells",.list (cs.map (PV.int false))),("at",.int fl a)])] Q:=by
 refine⟨λA fr n v vs kvs g d tk os R' room hh cr hv hvs hkv P'=>h.run A fr n v vs kvs g d tk os R' room hh ⟨⟨cr.inv.P,cr.inv.base,cr.inv.sub,λk o e=>?_,cr.inv.off⟩,cr.dom,cr.off,cr.frames⟩ hv hvs hkv P'⟩
 have e:cond (aX 1 k) (some _) none=some o:=e
 cases q:aX 1 k with
 | false=>rw[q] at e;exact bR e
 | true=>
  rw[q] at e
  cases e
  cases bX q
  obtain⟨hd,r⟩:=cr.inv.foot 1 _ rfl
  refine⟨hd,?_⟩
  cases r with
  | ja g1 o1 p1=>
   cases p1 with
   | cons a1 p1=>
    cases p1 with
    | cons a2 p1=>
     cases p1
     cases a2
     exact .ja g1 o1 (.cons a1 (.cons .int .nil))
theorem La(c:Cx S){us:List Tok}{ts:TS}(hu:ts.map (·.1)=us){most:Int}{fm gl fg:Bool}(hz:ts.length≤100)(hq:∀ R,dN most gl ts [] [] []=R→Q (.ok (.pv (wG R))) []):ao S (l+5) (fV 987) [.pv (.list (us.map kL)),.pv (.int fm most),.pv (.bool fg gl)] [] [] Q:=by
 subst hu
 rw[uG]
 exact NL c hz hq
structure OA(us:List Tok)(a₀ i:Nat)(ys:List PV)(s:Nat×TS):Prop where
 u:s.2.map (·.1)=us.take i
 k:∀ p ∈ s.2,p.2<6
 b:fC ys=some (s.2.map λp=>p.1.oct++sep p.2)
 a:s.1≤a₀+i
theorem v_{ys:List PV}{bs:List (List UInt8)}{f:Bool}{b:List UInt8}(h:fC ys=some bs):fC (ys++[.bytes f b])=some (bs++[b]):=by
 induction ys generalizing bs with
 | nil=>cases h;rfl
 | cons y ys ih=>
  cases y with
  | bytes f' b'=>
   have h:aF (fC ys) (λq=>some (b'::q)) none=some bs:=h
   cases q:fC ys with
   | none=>rw[q] at h;exact bR h
   | some q'=>
    rw[q] at h
    cases h
    show aF (fC (ys++[.bytes f b])) (λq=>some (b'::q)) none=_
    rw[ih q];rfl
  | _=>exact bR h
theorem OA.next{us:List Tok}{a₀ i k:Nat}{ys:List PV}{s:Nat×TS}(h:OA us a₀ i ys s){t:Tok}(ht:us[i]? =some t)(hk:k<6){f:Bool}:OA us a₀ (i+1) (ys++[.bytes f (t.oct++sep k)]) (s.1+1,s.2++[(t,k)]):=by
 refine⟨?_,λp hp=>?_,?_,?_⟩
 ·rw[fJ,ht,b_,h.u];rfl
 ·rcases bN.mp hp with hp | hp
  ·exact h.k p hp
  ·rw[az.mp hp];exact hk
 ·rw[b_];exact v_ h.b
 ·exact aH h.a
theorem HU{n:Nat}(h:n<4):(2:Int)≤[2,3,4,65535].getD n 0:=(show∀ n,n<4→(2:Int)≤[2,3,4,65535].getD n 0 by decide) n h
theorem ND(c:Cx S){k:LU}{mk:Bool}{w:List UInt8}(hw:w=eU k.ts)(hr:2≤k.r)(hg:jF k.ts)(hn:k.ts.length≤28)(e0:dN k.r k.gl k.ts [] [] []=k.R)(hf:k.fO.length=k.R.1.length+1)(hz:(eU k.ts).length≤65535)(hq:Q (.ok (bV true)) [(9,.tab true)]):
  ao S (l+62) (fV 1009) [.pv (.bytes false w),.pv (wG k.R),.pv (.list (k.fO.map (PV.bool false))),.pv (.int k.f1 k.r),.pv (.bool k.f2 k.gl)] [] [(9,.tab mk)] Q:=by
 subst hw;exact Qz c hr hg hn e0 hf hz hq
theorem Ma(c:Cx S){ts:TS}{r:Int}{f1 f2 fp b gl mk:Bool}{w:List UInt8}(hw:w=eU ts)(hr:2≤r)(hg:jF ts)(hn:ts.length≤28){R:Rd}(e0:dN r gl ts [] [] []=R)(hz:(eU ts).length≤65535)(hq:Q (.ok (bV true)) [(9,.tab true)]):
  ao S (l+64) (fV 1014) [.pv (.bytes false w),.pv (wG R),.pv (.bool fp b),.pv (.int f1 r),.pv (.bool f2 gl)] [] [(9,.tab mk)] Q:=by
 subst hw;exact O_ c hr hg hn e0 hz hq
theorem Qm(c:Cx S){is:List Int}(hz:is.length≤63)(hq:Q (.ok (bV true)) [(9,.tab true)]):ao S (l+66) (fV 1019) [.pv (.list (is.map (PV.int false)))] [] [(9,.tab false)] Q:=by
 refine bO c (F1019_1 c) rfl rfl λA env fr en=>?_
 refine Gs (en.ih c 35) en.ok rfl rfl (by decide) (by decide) ?_
 have cz:(is.take 60).length≤60:=List.length_take_le 60 is
 refine yx c en 34 34 (by kernel_rfl) (by kernel_rfl) (aR ?_ ?_)
 ·show(true&&decide ((0:Int)≤60)&&aO (is.map (PV.int false)).length aB)=true
  rw[cA (show(is.map (PV.int false)).length≤65535 by rw[aC];exact aa hz (by decide))];rfl
 refine lG (is.take 60) (PV.int false) (PV.int false) ⟨[],[(9,.tab false)],[9],[]⟩ (List.map_take.symm) (aa cz (by decide)) rfl rfl (λA' env' uA i ys x hx hi=>⟨_,rfl,cU () [("cell",_)] rfl rfl (Dj hi hx)⟩) ?_
 refine⟨_,rfl,_,rfl,(show[("cells":Str),"at"].Nodup by decide),1,rfl,?_⟩
 refine ao.Pn (a:=0) (IK c cz (d7 _) λus a1 ul ug ha1=>?_)
 refine zY c en 35 (by kernel_rfl) ?_
 have d1:=jU (cs:=is.take 60) (a:=a1) (b:=4) (by decide)
 refine lH c (by decide) cz (aa ha1 (by decide)) (aR (tE d1.1 d1.2 rfl) (lH c (by decide) cz (aa (aH ha1) (by decide)) ?_))
 have Jh:=HU ((lD d1.1).mpr d1.2)
 refine yx c en 31 31 (by kernel_rfl) (by kernel_rfl) ?_
 refine qx (λs:Nat×TS=>⟨[("deck",.loc 1)],D0 (is.take 60) s.1++[(9,.tab false)],[1,9],[]⟩) (OA us (a1+2)) (a:=(a1+2,[])) (by rw[aC];exact aa ul (by decide)) rfl ?_ ⟨rfl,λz_ h=>(jd h),rfl,bf _⟩ (λA' env' uA i ys s x hx hi=>?_) (λys s h=>?_)
 ·rfl
 ·obtain⟨t,ht,e⟩:∃ t,us[i]? =some t∧kL t=x:=by
   rw[fH] at hx
   cases q:us[i]? with
   | none=>rw[q] at hx;exact bR hx
   | some t=>rw[q] at hx;exact⟨t,rfl,aK hx⟩
  refine E2_1 (DO t) λf y e2=>?_
  rw[e2] at e
  subst e
  have il:i<us.length:=(bW.mp ht).1
  have ha:=hi.a
  have d6:=jU (cs:=is.take 60) (a:=s.1) (b:=6) (by decide)
  have k6:(gw (is.take 60) s.1 6).toNat<6:=(lD d6.1).mpr d6.2
  have tl:=Cn (ug t (bI ht))
  have sl:=Cz k6
  exact lH c (by decide) cz (aa (aa ha (dR (bD ha1 2) (aa (eB il) ul))) (by decide)) (aR (tE d6.1 d6.2 rfl) (aR (cA (by rw[aS];exact aa (dR tl sl) (by decide))) ⟨_,rfl,cU (s.1+1,s.2++[(t,(gw (is.take 60) s.1 6).toNat)]) [("row",_)] rfl rfl (hi.next ht k6)⟩))
 ·have hu:s.2.map (·.1)=us:=by rw[h.u,aC,e_]
  have ha:=h.a
  rw[aC] at ha
  have sl:s.2.length≤28:=by rw[←hu,aC] at ul;exact ul
  have gd:jF s.2:=λp hp=>⟨h.k p hp,ug p.1 (hu▸nW hp)⟩
  have ol:(eU s.2).length≤65535:=aa (FY gd) (aa (dK 135 sl) (by decide))
  have fl:=Dr s.2
  refine bq _ (bH h.b (aR (n6 (cA (by rw[fl];exact ol)) (cA (by rw[aC];exact aa sl (by decide)))) ?_))
  refine La c (ts:=s.2) hu (aa sl (by decide)) λR e0=>?_
  have tz:=(readP_28 e0 sl).1
  have tl:(mq R.1).reverse.length=R.1.length:=by rw[av,aC]
  have tn:(mq R.1).reverse.length+1≤29:=aH (aa (aQ tl) tz)
  refine qt c en 35 35 (by kernel_rfl) (by kernel_rfl) (by kernel_rfl) (aR (cA (by rw[tl];exact aa tz (by decide))) ?_)
  refine aR (n6 (decide_eq_true (cu ((mq R.1).reverse.length+1))) (bx (show(mq R.1).reverse.length+1≤1099511627776 from aa tn (by decide)))) ?_
  refine qx (λs:Nat×List Bool=>⟨[("deck",.loc 1)],D0 (is.take 60) s.1++[(9,.tab false)],[1,9],[]⟩) (λi ys a=>ys=a.2.map (PV.bool false)∧a.2.length=i∧a.1≤200+i) (a:=(s.1,[])) (by rw[lK];exact aa tn (by decide)) rfl rfl ⟨rfl,rfl,aa ha (aa (dR (bD ha1 2) ul) (by decide))⟩ (λA' env' uA i ys z x hx hi=>?_) (λys z hi=>?_)
  ·have il:=(m9 _ _ _ _ _ hx).2
   refine A3 hi λh1 h2 h3=>?_
   exact lH c (by decide) cz (aa h3 (aa (bw (aa (eB il) tn) 200) (by decide))) ⟨_,rfl,cU (z.1+1,z.2++[decide (gw (is.take 60) z.1 2=0)]) [("turn",_)] rfl rfl ⟨by rw[h1,b_];rfl,by rw[aS,h2];rfl,aH h3⟩⟩
  ·refine A3 hi λh1 h2 h3=>?_
   rw[lK] at h2
   have h2:z.2.length=R.1.length+1:=h2.trans (congrArg (·+1) tl)
   rw[h1]
   refine ND c (k:=⟨s.2,R,z.2,false,[2,3,4,65535].getD (gw (is.take 60) a1 4).toNat 0,false,decide (gw (is.take 60) (a1+1) 4=0)⟩) fl Jh gd sl e0 h2 ol ?_
   obtain⟨b,hb⟩:∃ b,(z.2.map (PV.bool false)).getLast? =some (.bool false b):=by
    cases q:z.2.getLast? with
    | none=>rw[List.getLast?_eq_none_iff.mp q] at h2;exact nomatch h2
    | some b=>exact⟨b,by rw[List.getLast?_map,q];rfl⟩
   exact aR (cA (by rw[aC,h2];exact aa (aH tz) (by decide))) (bq _ (bH hb (Ma c fl Jh gd sl e0 ol hq)))
end
end
section
open PySem.Sem (wp)
open MineH
theorem yN:Good ⟨.builtin "claim.caller" {},none,none,[],none⟩:=by unfold Good;decide+kernel
theorem Kl{prog:cP}{w:cE}{t:Sem Fin}{s:ah}{R:af→ah→Prop}(hz:s.asleep)
  (h:aA (model prog w) callerA t (λfin s'=>∃ v,fin= .done (.ret v)∧s'.gens= #[]∧R v s') (λz_ z_=>False) s):
  ∃ n v s',schedN (denote table) prog w n (.single s ⟨t,.builtin "claim.caller" {},default,[]⟩)= .halted (.done (.ret v)) s'∧s'.heap.life=s.heap.life∧s'.gens= #[]∧R v s':=by
 refine fO λzz=>?_
 obtain⟨n,r,s',s'',hs,hn,hf,v,rfl,hg,hR⟩:=wp_halts_full (M:=model prog w) (R:=λr s'=>∃ v,r= .ok (.ret v)∧s'.gens= #[]∧R v s') hz
  (Sem.wp_mono _ _ t (λfin p' s' h'=>by
   refine E1_3 h' λv nV hg hR=>?_
   subst nV
   exact⟨⟨v,rfl,hg,hR⟩,by rw[hg];simp[leftWithCleanup]⟩) (λz_ z_ z_ h'=>h'.elim) default s (h _ default caller_in yN))
 obtain rfl:=Shared.eq_of_forget_eq hf hg
 refine zz ?_
 exact⟨n,v,s'',hs,runN_life _ _ _ hn,hg,hR⟩
noncomputable abbrev Jq:Prop:=∀ (w:cE) (s₀ s₁:ah) (mg mb:Str→Option af),Ground qv kj [] (XL qv []) w s₀ mg mb s₁.heap→hook.says w s₁.heap→s₁.gens= #[]→∀ (vs:List af) (is:List Int),is.length≤63→WellAll w.params s₁.heap vs [.list (is.map WData.int)]→
 mg lA.name=some (.ref 1019)∧aA (model lA.prog w) callerA (PySem.call (.ref 1019) vs) (λv s'=>v= .bool true∧s'.gens= #[]∧OldK s₁.heap s'.heap∧s'.os=s₁.os) (λz_ z_=>False) s₁
theorem NJ(args:List WData):lA.toRowW.claim.post args (.bool true) args=true:=by kernel_rfl
theorem Ht{T U:WTm}{e:WCtx}(h:WTm.value [] T e=some (.bool true)):WTm.holds [] (.and (.not T) U) e=false:=by
 have e1:WTm.value [] (.not T) e=some (.bool false):=by
  show(match WTm.value [] T e with | some (.bool b)=>some (WData.bool (!b)) | _=>none)=_
  rw[h];rfl
 have e2:WTm.value [] (.and (.not T) U) e=some (.bool false):=by
  show(match WTm.value [] (.not T) e with
   | some (.bool false)=>some (WData.bool false)
   | some (.bool true)=>(match WTm.value [] U e with | some (.bool x)=>some (WData.bool x) | _=>none)
   | _=>none)=_
  rw[e1]
 unfold WTm.holds
 rw[e2]
theorem Iq{args:List WData}(hsh:WShape.hasAll [] args [.list .int]=true)(P9:(OpenLaw.pre cW).holds [] {args:=args}=true):∃ is:List Int,args=[.list (is.map WData.int)]∧is.length≤63:=by
 refine E2_3 (hasAllW_cons hsh) λd r eV h1 h2=>?_
 subst eV
 obtain rfl:=hasAllW_nil h2
 have items:∀ xs:List WData,WShape.hasItems [] xs .int=true→∃ is:List Int,xs=is.map WData.int:=λxs=>by
  induction xs with
  | nil=>exact λz_=>⟨[],rfl⟩
  | cons x xs ih=>
   intro h
   refine A2 (aj.mp (show(WShape.has [] x .int&&WShape.hasItems [] xs .int)=true from h)) λh1 h2=>?_
   refine E1_1 (ih h2) λis nV=>?_
   subst nV
   cases x with
   | int i=>exact⟨i::is,rfl⟩
   | _=>exact nomatch (show false=true from h1)
 cases d with
 | list xs=>
  refine E1_1 (items xs ((Bool.or_false _).symm.trans h1)) λis nV=>?_
  subst nV
  refine⟨is,rfl,?_⟩
  rcases fq 63 is.length with q | q
  ·have e1:W.less? (.int 63) (.int (is.map WData.int).length)=some true:=congrArg some (decide_eq_true (by rw[aC];exact fT.mpr q))
   have e2:WTm.value [] (.lt (.lit (.int 63)) (.len (.arg 0))) {args:=[.list (is.map WData.int)]}=some (.bool true):=congrArg (Option.map WData.bool) e1
   exact absurd ((Ht e2).symm.trans P9) (λh=>(gy h))
  ·exact q
 | _=>exact nomatch (show false=true from h1)
theorem Hu(said:cW.wellSaid=true)(walk:Jq):cW.Holds:=by
 refine holds_law said λk1=>⟨k1,JH,?_⟩
 refine fO λzz=>?_
 obtain⟨ok,k5⟩:=aj.mp Tw
 obtain⟨hch,o1⟩:=aj.mp ok
 refine zz ?_
 refine⟨⟨Mg,o1,rfl⟩,JH.witness,λw=>?_⟩
 have hb:=MW.behind (XP:=λmg h=>XL qv [] mg h∧RecFacts [] h) (λs e=>⟨xl_of s (aj.mp e).1,recFacts_of (aj.mp e).2⟩) hch w
 refine⟨hb.1,λs' hs'=>?_⟩
 refine fO λzz=>?_
 obtain⟨s₀,hf,SY,s,hT,hz,hgens,hg,DZ,y⟩:=hb.2 s' hs'
 refine zz ?_
 have hgens:s.gens= #[]:=Array.eq_empty_of_size_eq_zero (beq_iff_eq.mp hgens)
 have G:Ground qv kj [] (XL qv []) w s (s.heap.nsMap mainGlobals) (s.heap.nsMap builtinsNs) s.heap:=⟨DZ.T,DZ.B,DZ.D,DZ.TE,DZ.TD,DZ.W,DZ.X.1,DZ.cls,DZ.has,DZ.apart,DZ.once,DZ.K⟩
 refine⟨s₀,hf,SY,s,hT,λn hn=>?_,λz_ h=>(jd h),λz_ h=>(jd h),?_⟩
 ·obtain rfl:n=lA.name:=by split at hn <;> simp_all
  exact pinned_of_view hg G MineH.def_ IE Th
 ·intro args hpre hlay ord hord
  refine fO λzz=>?_
  obtain⟨hsh,P9⟩:=pre_splitW (r:=lA.toRowW) hpre
  obtain⟨⟨vs,s₁⟩,hlaid⟩:=fB.mp (layAllW_isSome (P:=w.params) (ord:=ord) G.has args lA.args s hsh)
  have keeps:=layAllW_keeps _ _ _ hlaid
  have hal:=layAllW_rest _ _ _ hlaid
  obtain⟨as,hrd,hin,hold⟩:=reads_layAllW hord _ _ _ hlaid hlay s₁.heap (λz_ z_ e=>e)
  have L:W.Laid [] w s s₁ args vs as:=⟨⟨ord,hord,hlaid⟩,hrd,hin,hold,keeps,hal.1.trans hgens,hal.2.2.1⟩
  have wl:=well_layAllW hord args s _ hlaid _ λz_ z_ e=>e
  obtain⟨is,rfl,hl⟩:=Iq hsh P9
  have G₁:=G.keeps XL.keeps keeps
  obtain⟨hm,hw⟩:=walk w s s₁ _ _ G₁ (hook.keeps _ _ _ (hook.of w s y) keeps) L.gens vs is hl wl
  obtain⟨n,v,s'',hs,MF,hg',rfl,hK,hos⟩:=Kl (prog:=lA.prog) (w:=w) (t:=(callStub lA.name vs).cur) (s:=s₁) (R:=λv s'=>v= .bool true∧OldK s₁.heap s'.heap∧s'.os=s₁.os) (Shared.asleep_of_life hal.2.2.2 hz)
   (ai (bS (wpAny_nsGet G₁.T.g (by rw[hm];exact ai (aN hw λv s' h=>aD ⟨v,rfl,h.2.1,h.1,h.2.2⟩)))))
  refine zz ?_
  have z:=(GoodWG.laid (c:=lA.toRowW.claim) rfl rfl (ident_freeW rfl rfl rfl) L ⟨.inl ⟨.bool true,.bool true,[],rfl,λz_=>rfl,.bool true,NJ _,λz_=>⟨jA,λz_ h=>(jd h)⟩⟩,hK,hos,.of_eq hg'⟩).1
  refine⟨vs,s₁,hlaid,n,_,s'',hs,.inl ?_,λz_ i x hx=>by rw[hgens] at hx;simp at hx,λh=>(gy h),by rw[MF];exact congrArg Life.seen hal.2.2.2,Shared.rest_eq (hos.trans L.os)⟩
  rcases z with ⟨v,e,d1,d2,d3,d4,d5⟩ | ⟨e,ob,cls,q,_⟩
  ·cases e
   exact⟨_,rfl,d1,d2,d3,λb o y z_=>d4 b o y,d5⟩
  ·cases q
end
section
open MineH
noncomputable def minus(h:b9)(a:au):b9:={h with objs:=h.objs.setIfInBounds a {cls:=.none,data:=.freed}}
theorem jm{h:b9}{a b:au}(hb:b≠a):(minus h a).get? b=h.get? b:=by
 unfold Heap.get?
 show(match(h.objs.setIfInBounds a _)[b]? with | some ⟨_,_,.freed,_⟩=>none | o=>o)=_
 rw[Array.getElem?_setIfInBounds_ne (eW hb)];rfl
theorem yK{h:b9}{a:au}:(minus h a).get? a=none:=by
 unfold Heap.get?
 show(match(h.objs.setIfInBounds a {cls:=.none,data:=.freed})[a]? with | some ⟨_,_,.freed,_⟩=>none | o=>o)=_
 rw[Array.getElem?_setIfInBounds_self]
 by_cases q:a<h.objs.size
 ·rw[if_pos q]
 ·rw[if_neg q]
theorem Ft{h:b9}{a b:au}{o:Obj}(e:(minus h a).get? b=some o):b≠a∧h.get? b=some o:=by
 by_cases q:b=a
 ·rw[q,yK] at e;exact bR e
 ·exact⟨q,(jm q).symm.trans e⟩
section
variable{w:cE}{h:b9}{mg mb:Str→Option af}
noncomputable def sx(w:cE)(h:b9)(mg mb:Str→Option af):Sx:=⟨lA.prog,pK,w,KK w.params,minus h 999,mg,mb,qv,looseW qv kj⟩
theorem KL{P:aV}:(KK P).lookup 999=none:=by kernel_rfl
theorem QX(X:(KK w.params).In h):(KK w.params).In (minus h 999):=λa o e=>by
 by_cases q:a=999
 ·rw[q,KL] at e;exact bR e
 ·rw[jm q];exact X a o e
theorem Ob(X:(KK w.params).In h)(T:TopRead qv (looseW qv kj) mg mb h){bm:au}{ob:Obj}(M:BMod h mainGlobals mg bm ob)(tab:h.get? 999=some (tabObj #[])):Cx (sx w h mg mb):=by
 have ne1:bm≠999:=λq=>by have e:=M.obj;rw[q,tab] at e;cases e;exact nomatch M.cls
 have ne2:bm≠mainGlobals:=λq=>by
  refine E3_3 M.ns λo es ep ho hd z_=>?_
  have e:=M.obj
  rw[q,ho] at e
  cases e
  exact nomatch (M.data.symm.trans hd)
 exact⟨⟨QX X,⟨T.g.at λo e=>(jm (by decide)).trans e,T.b.at λo e=>(jm (by decide)).trans e,T.nolimit.at λo e=>(jm (by decide)).trans e,T.builtins,T.free⟩⟩,rfl,rfl,
  λh' k=>⟨bm,ob,M.name,M.ne,ne2,ne1,k _ _ ((jm ne1).trans M.obj),M.cls,M.dict,M.data⟩⟩
noncomputable def JO(w:cE)(h:b9):Snap:=⟨⟨w.params,(minus h 999).get?,λa=>if a=999 then some 9 else none,[9],λz_=>999⟩,h⟩
theorem Mn(tab:h.get? 999=some (tabObj #[])):CRel (sx w h mg mb) [] [(9,.tab false)] [9] (JO w h):=by
 refine⟨⟨rfl,λa o e=>e,λa o e=>(Ft e).2,λk o e=>?_,λa k e=>?_⟩,rfl,λa h=>(jd h),trivial⟩
 ·have e:cond (aX 9 k) (some (eg.tab false)) none=some o:=e
  cases q:aX 9 k with
  | false=>rw[q] at e;exact bR e
  | true=>
   rw[q] at e
   cases e
   cases bX q
   exact⟨.head _,.tab (ps:= #[]) tab rfl rfl rfl⟩
 ·have e:(if a=999 then some 9 else none)=some k:=e
  by_cases q:a=999
  ·subst q;exact⟨yK,_,tab⟩
  ·rw[if_neg q] at e;exact bR e
theorem MQ{P:aV}{G:au→Option Obj}{is:List Int}:∀ {vs:List af},WellAll P h vs (is.map WData.int)→bQ P G vs (is.map (PV.int false)):=by
 induction is with
 | nil=>intro vs h;cases h;exact .nil
 | cons i is ih=>intro vs h;cases h with | cons a b=>cases a;exact .cons .int (ih b)
theorem Ou:Jq:=by
 intro w s₀ s₁ mg mb G Y hgens vs is hl wl
 refine E2_1 (bmod_of_top G.T) λbm ob M=>?_
 have X:=km_in_of Y
 have tab:s₁.heap.get? 999=some (tabObj #[]):=km_tabs_of Y 999 (.head _)
 have T:TopRead qv (looseW qv kj) mg mb s₁.heap:=topRead_of G.T
 have c:=Ob X T M tab
 have hd:CodeHd s₁.heap 1003 999:=codeHd_of_K X (by kernel_rfl)
 obtain⟨oc,vc,_,_,_,_,_,_,_,k1,k2,k3,k4,_⟩:=hd
 refine⟨mg_of X T.g (by kernel_rfl),jo ?_⟩
 cases wl with
 | cons w1 w2=>
 cases w2
 cases w1 with
 | @list a vals _ ga wa=>
 have ne:a≠999:=λq=>by rw[q,tab] at ga;cases ga
 have h:=Qm (S:=sx w s₁.heap mg mb) (l:=0) c (Q:=λr F=>r= .ok (bV true)∧F=[(9,.tab true)]) hl ⟨rfl,rfl⟩
 refine h.run callerA [] (JO w s₁.heap) _ _ _ s₁.gens s₁.drawn s₁.toks s₁.os _ ⟨rfl,by decide,by decide⟩ rfl (Mn tab) (.pv .sv) (.cons (.pv (.list ((jm ne).trans ga) (MQ wa))) .nil) .nil λn' tk' F' ev cr=>⟨λm hm v hv=>?_,λt ht=>nomatch ht.1⟩
 obtain⟨hm,rfl⟩:=hm
 cases hm
 cases vBool hv
 refine⟨rfl,hgens,⟨λb o e=>?_,λb o e=>ev.live b o e⟩,rfl⟩
 by_cases q:b=999
 ·subst q
  rw[show s₁.heap.get? 999=_ from tab] at e
  cases e
  refine A2 (cr.inv.foot 9 _ rfl) λz_ ro=>?_
  have PC:n'.X.θ 9=999:=ev.le.θ 9 (.head _)
  cases ro with
  | @tab ps _ g1 _ _ _=>
   rw[PC] at g1
   exact .inr (.inl ⟨⟨1003,oc,vc,k1,k2,k3,k4⟩,rfl, #[],ps,rfl,by rw[Array.empty_append];exact g1⟩)
 ·exact .inl ((ev.keep b o e (if_neg q) (λh=>jd h)).1 λh=>jd h)
theorem holds_:cW.Holds:=Hu NU Ou
end
end
end Mine
end
set_option maxHeartbeats 4000000
theorem PySem.Challenge.cw_pq0918_01_holds : PySem.Challenge.rw_pq0918_01.Holds :=
  Mine.holds_
