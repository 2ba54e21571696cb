import PyProof.Rows.All
import Wide.All
import Wide.FinOn
import Open.Line
import OpenK.KWalk
import OpenK.KMake
import OpenK.KMore
import PyProof.SetRoads
import PyProof.DictKinds
import PyProof.Rows.SetFrom
import PyProof.CompFree
import PyProof.DictCalls
import PyProof.DictWalks
import PyProof.WalksMore
import PyProof.StrWalks
import PyProof.Rows.Many
import PyProof.Rows.Tup
import PyProof.Rows.EqMixed
import PyProof.Cells
import PyProof.Raises
import PyProof.Rules3
import PyProof.AssignAttr
import PyProof.Rows.TupSub
import PyProof.Rows.Chain
import PyProof.Rows.AttrNodeAny
import PyProof.LetGo
import PyProof.TupleIter
import PyProof.SliceSyntax
import PyProof.RaisesMany
import PyProof.ForAny
import PyProof.RangeFor
import PyProof.PureInt
import PyProof.NoPylong
import PyProof.Rows.RuleB_floordiv
import PyProof.Rows.RuleB_mod
import PyProof.Rows.RuleB_pow
import PyProof.Rows.RuleB_small
import PyProof.Rows.RuleC_bool
import PyProof.Rows.StrRules
import PyProof.FString5
import PyProof.IsRules
import PyProof.WalkInts
import PyProof.Rows.Nodes
import PyProof.Rows.Method
import PyProof.PureCalls
import PyProof.Rows.StrTemp
import PyProof.Rows.TupMore
import PyProof.IsiNone
import PyProof.IsInstanceH
import PyProof.StrLawsJoin
import PyProof.StrLawsIn
import PyProof.DictTable
import PyProof.DictCopy
import PyProof.CollectWalk
import PyProof.CollectIter
import PyProof.EqAt
import PyProof.ListNew
import PyProof.ListRange
import PyProof.Rows.SortShell
import KE.KDictOf
import PyProof.NeData
import PyProof.StrBlockH
import PyProof.Rows.SortRuns
import PyProof.Rows.SortInsK
import PyProof.Rows.SortShellK
import PyProof.Rows.SortStr
import PyProof.EnumMake
import PyProof.SumAny
import PyProof.ExcClass2
import PyProof.RulesAs
import PyProof.ExcBaseAll.ValueError
import PyProof.ExcAttrAll.ValueError
import PyProof.Conv_int_bool
import PyProof.SliceMore
import PyProof.Rows.SeqSlice
import PyProof.AutoSeq1
import PyProof.Rows.Range3
import PyProof.MeetsDictList
import PyProof.ListCopy
import PyProof.StrBlock
import PySem.Challenge.RW_uf050040_08
set_option Elab.async false
set_option autoImplicit false
set_option maxRecDepth 100000
namespace Mine
open PySem PySem.W PySem.Calls PyProof.Rows PySem.Challenge
noncomputable def dr (p:Program) (i:Nat):DefRec:=match p.main.body[i]? with
 | some (.FunctionDef name args body _ _ _ scope _ _ pos)=>⟨name,args,body,scope,pos⟩
 | _=>⟨"",{ posonlyargs:=[],args:=[],vararg:=none,kwonlyargs:=[],kw_defaults:=[],kwarg:=none,defaults:=[] },[],{ kind:=.function,names:=[],isGenerator:=false,isCoroutine:=false,more:=[] },⟨0,0,0,0⟩⟩
noncomputable def dm (p:Program) (i j:Nat):DefRec:=match p.main.body[i]? with
 | some (.ClassDef _ _ _ body _ _ _ _ _ _ _)=>(match body[j]? with
  | some (.FunctionDef name args body _ _ _ scope _ _ pos)=>⟨name,args,body,scope,pos⟩
  | _=>dr p 1000000)
 | _=>dr p 1000000
noncomputable def KF (P:Params):Frag:=[
 (1,Obj.mk (Value.type "dict") none
 (Data.dict
  #[DictEntry.mk (PyData.keyHash P (Str.ofString "builtins"))
    (Value.str (Str.ofString "builtins") 162) (Value.ref 4),
   DictEntry.mk (PyData.keyHash P (Str.ofString "__main__"))
    (Value.str (Str.ofString "__main__") 163) (Value.ref 5)]
  2)
 #[]),
 (3,Obj.mk (Value.type "dict") none
 (Data.dict
  #[DictEntry.mk (PyData.keyHash P (Str.ofString "__name__"))
    (Value.str (Str.ofString "__name__") 165)
    (Value.str (Str.ofString "law_uf050040_08") 490),
   DictEntry.mk (PyData.keyHash P (Str.ofString "__doc__"))
    (Value.str (Str.ofString "__doc__") 166) Value.none,
   DictEntry.mk (PyData.keyHash P (Str.ofString "__package__"))
    (Value.str (Str.ofString "__package__") 167) Value.none,
   DictEntry.mk (PyData.keyHash P (Str.ofString "__loader__"))
    (Value.str (Str.ofString "__loader__") 168) (Value.builtin "__main__.__loader__#opaque"),
   DictEntry.mk (PyData.keyHash P (Str.ofString "__spec__"))
    (Value.str (Str.ofString "__spec__") 169) Value.none,
   DictEntry.mk (PyData.keyHash P (Str.ofString "__annotations__"))
    (Value.str (Str.ofString "__annotations__") 170) (Value.ref 6),
   DictEntry.mk (PyData.keyHash P (Str.ofString "__builtins__"))
    (Value.str (Str.ofString "__builtins__") 171) (Value.ref 4),
   DictEntry.mk (PyData.keyHash P (Str.ofString "__file__"))
    (Value.str (Str.ofString "__file__") 173)
    (Value.str (Str.ofString "/claim/cut.py") 172),
   DictEntry.mk (PyData.keyHash P (Str.ofString "__cached__"))
    (Value.str (Str.ofString "__cached__") 174) Value.none,
   DictEntry.mk (PyData.keyHash P (Str.ofString "GossipError"))
    (Value.str (Str.ofString "GossipError") 206) (Value.ref 24),
   DictEntry.mk (PyData.keyHash P (Str.ofString "NoName"))
    (Value.str (Str.ofString "NoName") 222) (Value.ref 37),
   DictEntry.mk (PyData.keyHash P (Str.ofString "NoAmount"))
    (Value.str (Str.ofString "NoAmount") 238) (Value.ref 49),
   DictEntry.mk (PyData.keyHash P (Str.ofString "NoPage"))
    (Value.str (Str.ofString "NoPage") 254) (Value.ref 61),
   DictEntry.mk (PyData.keyHash P (Str.ofString "Forged"))
    (Value.str (Str.ofString "Forged") 270) (Value.ref 73),
   DictEntry.mk (PyData.keyHash P (Str.ofString "NoNote"))
    (Value.str (Str.ofString "NoNote") 286) (Value.ref 85),
   DictEntry.mk (PyData.keyHash P (Str.ofString "LETTERS"))
    (Value.str (Str.ofString "LETTERS") 290)
    (Value.str (Str.ofString "abcdefghijklmnopqrstuvwxyz") 289),
   DictEntry.mk (PyData.keyHash P (Str.ofString "GREATEST"))
    (Value.str (Str.ofString "GREATEST") 292) (Value.int 1000000000 291),
   DictEntry.mk (PyData.keyHash P (Str.ofString "is_name"))
    (Value.str (Str.ofString "is_name") 300) (Value.ref 94),
   DictEntry.mk (PyData.keyHash P (Str.ofString "is_amount"))
    (Value.str (Str.ofString "is_amount") 307) (Value.ref 101),
   DictEntry.mk (PyData.keyHash P (Str.ofString "greater"))
    (Value.str (Str.ofString "greater") 317) (Value.ref 108),
   DictEntry.mk (PyData.keyHash P (Str.ofString "reaches"))
    (Value.str (Str.ofString "reaches") 325) (Value.ref 115),
   DictEntry.mk (PyData.keyHash P (Str.ofString "net"))
    (Value.str (Str.ofString "net") 332) (Value.ref 122),
   DictEntry.mk (PyData.keyHash P (Str.ofString "MOST_NAMES"))
    (Value.str (Str.ofString "MOST_NAMES") 336) (Value.int 200 335),
   DictEntry.mk (PyData.keyHash P (Str.ofString "is_part"))
    (Value.str (Str.ofString "is_part") 343) (Value.ref 129),
   DictEntry.mk (PyData.keyHash P (Str.ofString "is_share"))
    (Value.str (Str.ofString "is_share") 350) (Value.ref 136),
   DictEntry.mk (PyData.keyHash P (Str.ofString "is_page"))
    (Value.str (Str.ofString "is_page") 358) (Value.ref 143),
   DictEntry.mk (PyData.keyHash P (Str.ofString "share_of"))
    (Value.str (Str.ofString "share_of") 366) (Value.ref 150),
   DictEntry.mk (PyData.keyHash P (Str.ofString "joined"))
    (Value.str (Str.ofString "joined") 376) (Value.ref 157),
   DictEntry.mk (PyData.keyHash P (Str.ofString "lacking"))
    (Value.str (Str.ofString "lacking") 386) (Value.ref 164),
   DictEntry.mk (PyData.keyHash P (Str.ofString "total"))
    (Value.str (Str.ofString "total") 392) (Value.ref 169),
   DictEntry.mk (PyData.keyHash P (Str.ofString "Hand"))
    (Value.str (Str.ofString "Hand") 489) (Value.ref 242),
   DictEntry.mk (PyData.keyHash P (Str.ofString "_law_cell_at"))
    (Value.str (Str.ofString "_law_cell_at") 499) (Value.ref 253),
   DictEntry.mk (PyData.keyHash P (Str.ofString "_law_whole"))
    (Value.str (Str.ofString "_law_whole") 506) (Value.ref 260),
   DictEntry.mk (PyData.keyHash P (Str.ofString "_law_number_by"))
    (Value.str (Str.ofString "_law_number_by") 514) (Value.ref 267),
   DictEntry.mk (PyData.keyHash P (Str.ofString "_law_share"))
    (Value.str (Str.ofString "_law_share") 522) (Value.ref 274),
   DictEntry.mk (PyData.keyHash P (Str.ofString "_law_name_by"))
    (Value.str (Str.ofString "_law_name_by") 528) (Value.ref 279),
   DictEntry.mk (PyData.keyHash P (Str.ofString "_law_mixed"))
    (Value.str (Str.ofString "_law_mixed") 536) (Value.ref 286),
   DictEntry.mk (PyData.keyHash P (Str.ofString "_law_page_by"))
    (Value.str (Str.ofString "_law_page_by") 548) (Value.ref 293),
   DictEntry.mk (PyData.keyHash P (Str.ofString "_law_near_by"))
    (Value.str (Str.ofString "_law_near_by") 563) (Value.ref 300),
   DictEntry.mk (PyData.keyHash P (Str.ofString "_law_same"))
    (Value.str (Str.ofString "_law_same") 572) (Value.ref 307),
   DictEntry.mk (PyData.keyHash P (Str.ofString "_law_joined"))
    (Value.str (Str.ofString "_law_joined") 586) (Value.ref 314),
   DictEntry.mk (PyData.keyHash P (Str.ofString "_law_total"))
    (Value.str (Str.ofString "_law_total") 595) (Value.ref 321),
   DictEntry.mk (PyData.keyHash P (Str.ofString "_law_truth"))
    (Value.str (Str.ofString "_law_truth") 603) (Value.ref 328),
   DictEntry.mk (PyData.keyHash P (Str.ofString "_law_kind"))
    (Value.str (Str.ofString "_law_kind") 611) (Value.ref 335),
   DictEntry.mk (PyData.keyHash P (Str.ofString "_law_lacking"))
    (Value.str (Str.ofString "_law_lacking") 622) (Value.ref 342),
   DictEntry.mk (PyData.keyHash P (Str.ofString "_law_odd_share"))
    (Value.str (Str.ofString "_law_odd_share") 631) (Value.ref 349),
   DictEntry.mk (PyData.keyHash P (Str.ofString "_law_odd_by"))
    (Value.str (Str.ofString "_law_odd_by") 645) (Value.ref 356),
   DictEntry.mk (PyData.keyHash P (Str.ofString "_law_heard"))
    (Value.str (Str.ofString "_law_heard") 654) (Value.ref 363),
   DictEntry.mk (PyData.keyHash P (Str.ofString "_law_lettered"))
    (Value.str (Str.ofString "_law_lettered") 663) (Value.ref 370),
   DictEntry.mk (PyData.keyHash P (Str.ofString "_law_page_for"))
    (Value.str (Str.ofString "_law_page_for") 678) (Value.ref 377),
   DictEntry.mk (PyData.keyHash P (Str.ofString "_law_behind"))
    (Value.str (Str.ofString "_law_behind") 695) (Value.ref 384),
   DictEntry.mk (PyData.keyHash P (Str.ofString "law"))
    (Value.str (Str.ofString "law") 709) (Value.ref 391)]
  52)
 #[]),
 (23,Obj.mk (Value.type "dict") none
 (Data.dict
  #[DictEntry.mk (PyData.keyHash P (Str.ofString "__module__"))
    (Value.str (Str.ofString "__module__") 196)
    (Value.str (Str.ofString "gossipcount.errors") 187),
   DictEntry.mk (PyData.keyHash P (Str.ofString "__firstlineno__"))
    (Value.str (Str.ofString "__firstlineno__") 200) (Value.int 2 199),
   DictEntry.mk (PyData.keyHash P (Str.ofString "__static_attributes__"))
    (Value.str (Str.ofString "__static_attributes__") 201) (Value.ref 22),
   DictEntry.mk (PyData.keyHash P (Str.ofString "__weakref__"))
    (Value.str (Str.ofString "__weakref__") 203) (Value.ref 25),
   DictEntry.mk (PyData.keyHash P (Str.ofString "__doc__"))
    (Value.str (Str.ofString "__doc__") 204) Value.none]
  3)
 #[]),
 (24,Obj.mk (Value.type "type") none
 (Data.cls
  (ClassData.mk (Str.ofString "GossipError") [Value.type "ValueError"]
   [Value.ref 24,Value.type "ValueError",Value.type "Exception",
    Value.type "BaseException",Value.type "object"]
   23 (Str.ofString "GossipError") true []
   [Value.ref 37,Value.ref 49,Value.ref 61,Value.ref 73,Value.ref 85] false
   none false))
 #[some (Value.ref 15),none,some (Value.str (Str.ofString "GossipError") 189),
  some (Value.str (Str.ofString "GossipError") 197),
  some (Value.builtin "ValueError.__new__"),some (Value.bool true)]),
 (36,Obj.mk (Value.type "dict") none
 (Data.dict
  #[DictEntry.mk (PyData.keyHash P (Str.ofString "__module__"))
    (Value.str (Str.ofString "__module__") 214)
    (Value.str (Str.ofString "gossipcount.errors") 187),
   DictEntry.mk (PyData.keyHash P (Str.ofString "__firstlineno__"))
    (Value.str (Str.ofString "__firstlineno__") 218) (Value.int 4 217),
   DictEntry.mk (PyData.keyHash P (Str.ofString "__static_attributes__"))
    (Value.str (Str.ofString "__static_attributes__") 219) (Value.ref 35),
   DictEntry.mk (PyData.keyHash P (Str.ofString "__doc__"))
    (Value.str (Str.ofString "__doc__") 220) Value.none]
  2)
 #[]),
 (37,Obj.mk (Value.type "type") none
 (Data.cls
  (ClassData.mk (Str.ofString "NoName") [Value.ref 24]
   [Value.ref 37,Value.ref 24,Value.type "ValueError",Value.type "Exception",
    Value.type "BaseException",Value.type "object"]
   36 (Str.ofString "NoName") true [] [] false none false))
 #[some (Value.ref 28),none,some (Value.str (Str.ofString "NoName") 207),
  some (Value.str (Str.ofString "NoName") 215),
  some (Value.builtin "ValueError.__new__"),some (Value.bool true)]),
 (48,Obj.mk (Value.type "dict") none
 (Data.dict
  #[DictEntry.mk (PyData.keyHash P (Str.ofString "__module__"))
    (Value.str (Str.ofString "__module__") 230)
    (Value.str (Str.ofString "gossipcount.errors") 187),
   DictEntry.mk (PyData.keyHash P (Str.ofString "__firstlineno__"))
    (Value.str (Str.ofString "__firstlineno__") 234) (Value.int 6 233),
   DictEntry.mk (PyData.keyHash P (Str.ofString "__static_attributes__"))
    (Value.str (Str.ofString "__static_attributes__") 235) (Value.ref 47),
   DictEntry.mk (PyData.keyHash P (Str.ofString "__doc__"))
    (Value.str (Str.ofString "__doc__") 236) Value.none]
  2)
 #[]),
 (49,Obj.mk (Value.type "type") none
 (Data.cls
  (ClassData.mk (Str.ofString "NoAmount") [Value.ref 24]
   [Value.ref 49,Value.ref 24,Value.type "ValueError",Value.type "Exception",
    Value.type "BaseException",Value.type "object"]
   48 (Str.ofString "NoAmount") true [] [] false none false))
 #[some (Value.ref 40),none,some (Value.str (Str.ofString "NoAmount") 223),
  some (Value.str (Str.ofString "NoAmount") 231),
  some (Value.builtin "ValueError.__new__"),some (Value.bool true)]),
 (60,Obj.mk (Value.type "dict") none
 (Data.dict
  #[DictEntry.mk (PyData.keyHash P (Str.ofString "__module__"))
    (Value.str (Str.ofString "__module__") 246)
    (Value.str (Str.ofString "gossipcount.errors") 187),
   DictEntry.mk (PyData.keyHash P (Str.ofString "__firstlineno__"))
    (Value.str (Str.ofString "__firstlineno__") 250) (Value.int 8 249),
   DictEntry.mk (PyData.keyHash P (Str.ofString "__static_attributes__"))
    (Value.str (Str.ofString "__static_attributes__") 251) (Value.ref 59),
   DictEntry.mk (PyData.keyHash P (Str.ofString "__doc__"))
    (Value.str (Str.ofString "__doc__") 252) Value.none]
  2)
 #[]),
 (61,Obj.mk (Value.type "type") none
 (Data.cls
  (ClassData.mk (Str.ofString "NoPage") [Value.ref 24]
   [Value.ref 61,Value.ref 24,Value.type "ValueError",Value.type "Exception",
    Value.type "BaseException",Value.type "object"]
   60 (Str.ofString "NoPage") true [] [] false none false))
 #[some (Value.ref 52),none,some (Value.str (Str.ofString "NoPage") 239),
  some (Value.str (Str.ofString "NoPage") 247),
  some (Value.builtin "ValueError.__new__"),some (Value.bool true)]),
 (72,Obj.mk (Value.type "dict") none
 (Data.dict
  #[DictEntry.mk (PyData.keyHash P (Str.ofString "__module__"))
    (Value.str (Str.ofString "__module__") 262)
    (Value.str (Str.ofString "gossipcount.errors") 187),
   DictEntry.mk (PyData.keyHash P (Str.ofString "__firstlineno__"))
    (Value.str (Str.ofString "__firstlineno__") 266) (Value.int 10 265),
   DictEntry.mk (PyData.keyHash P (Str.ofString "__static_attributes__"))
    (Value.str (Str.ofString "__static_attributes__") 267) (Value.ref 71),
   DictEntry.mk (PyData.keyHash P (Str.ofString "__doc__"))
    (Value.str (Str.ofString "__doc__") 268) Value.none]
  2)
 #[]),
 (73,Obj.mk (Value.type "type") none
 (Data.cls
  (ClassData.mk (Str.ofString "Forged") [Value.ref 24]
   [Value.ref 73,Value.ref 24,Value.type "ValueError",Value.type "Exception",
    Value.type "BaseException",Value.type "object"]
   72 (Str.ofString "Forged") true [] [] false none false))
 #[some (Value.ref 64),none,some (Value.str (Str.ofString "Forged") 255),
  some (Value.str (Str.ofString "Forged") 263),
  some (Value.builtin "ValueError.__new__"),some (Value.bool true)]),
 (84,Obj.mk (Value.type "dict") none
 (Data.dict
  #[DictEntry.mk (PyData.keyHash P (Str.ofString "__module__"))
    (Value.str (Str.ofString "__module__") 278)
    (Value.str (Str.ofString "gossipcount.errors") 187),
   DictEntry.mk (PyData.keyHash P (Str.ofString "__firstlineno__"))
    (Value.str (Str.ofString "__firstlineno__") 282) (Value.int 12 281),
   DictEntry.mk (PyData.keyHash P (Str.ofString "__static_attributes__"))
    (Value.str (Str.ofString "__static_attributes__") 283) (Value.ref 83),
   DictEntry.mk (PyData.keyHash P (Str.ofString "__doc__"))
    (Value.str (Str.ofString "__doc__") 284) Value.none]
  2)
 #[]),
 (85,Obj.mk (Value.type "type") none
 (Data.cls
  (ClassData.mk (Str.ofString "NoNote") [Value.ref 24]
   [Value.ref 85,Value.ref 24,Value.type "ValueError",Value.type "Exception",
    Value.type "BaseException",Value.type "object"]
   84 (Str.ofString "NoNote") true [] [] false none false))
 #[some (Value.ref 76),none,some (Value.str (Str.ofString "NoNote") 271),
  some (Value.str (Str.ofString "NoNote") 279),
  some (Value.builtin "ValueError.__new__"),some (Value.bool true)]),
 (182,Obj.mk (Value.type "code") none
 (Data.fields
  #[Value.str (Str.ofString "__init__") 407,Value.str (Str.ofString "Hand.__init__") 408,
   Value.str (Str.ofString "/claim/cut.py") 409,Value.int 66 0,Value.int 2 0,
   Value.int 0 0,Value.int 0 0,Value.int 3 0,Value.ref 177,Value.bool true,
   Value.int 181 0,Value.ref 178,Value.none,Value.ref 179,Value.ref 180,
   Value.ref 181,Value.int 412 0,Value.int 66 0,
   Value.str (Str.ofString "/claim/cut.py") 413])
 #[]),
 (183,⟨.type "function",none,.func { docDef (dm pw_uf050040_08 26 0).name (dm pw_uf050040_08 26 0).params (dm pw_uf050040_08 26 0).body (dm pw_uf050040_08 26 0).scope (Value.str (Str.ofString "gossipcount.hands") 393) (.ref 182) (Value.none) with qualname:="Hand.__init__" },#[]⟩),
 (189,Obj.mk (Value.type "code") none
 (Data.fields
  #[Value.str (Str.ofString "grown") 415,Value.str (Str.ofString "Hand.grown") 416,
   Value.str (Str.ofString "/claim/cut.py") 417,Value.int 72 0,Value.int 3 0,
   Value.int 0 0,Value.int 0 0,Value.int 3 0,Value.ref 184,Value.bool true,
   Value.int 181 0,Value.ref 185,Value.none,Value.ref 186,Value.ref 187,
   Value.ref 188,Value.int 422 0,Value.int 72 0,
   Value.str (Str.ofString "/claim/cut.py") 423])
 #[]),
 (190,⟨.type "function",none,.func { docDef (dm pw_uf050040_08 26 1).name (dm pw_uf050040_08 26 1).params (dm pw_uf050040_08 26 1).body (dm pw_uf050040_08 26 1).scope (Value.str (Str.ofString "gossipcount.hands") 393) (.ref 189) (Value.none) with qualname:="Hand.grown" },#[]⟩),
 (196,Obj.mk (Value.type "code") none
 (Data.fields
  #[Value.str (Str.ofString "up") 425,Value.str (Str.ofString "Hand.up") 426,
   Value.str (Str.ofString "/claim/cut.py") 427,Value.int 77 0,Value.int 2 0,
   Value.int 0 0,Value.int 0 0,Value.int 3 0,Value.ref 191,Value.bool true,
   Value.int 181 0,Value.ref 192,Value.none,Value.ref 193,Value.ref 194,
   Value.ref 195,Value.int 430 0,Value.int 77 0,
   Value.str (Str.ofString "/claim/cut.py") 431])
 #[]),
 (197,⟨.type "function",none,.func { docDef (dm pw_uf050040_08 26 2).name (dm pw_uf050040_08 26 2).params (dm pw_uf050040_08 26 2).body (dm pw_uf050040_08 26 2).scope (Value.str (Str.ofString "gossipcount.hands") 393) (.ref 196) (Value.none) with qualname:="Hand.up" },#[]⟩),
 (203,Obj.mk (Value.type "code") none
 (Data.fields
  #[Value.str (Str.ofString "down") 433,Value.str (Str.ofString "Hand.down") 434,
   Value.str (Str.ofString "/claim/cut.py") 435,Value.int 82 0,Value.int 2 0,
   Value.int 0 0,Value.int 0 0,Value.int 3 0,Value.ref 198,Value.bool true,
   Value.int 181 0,Value.ref 199,Value.none,Value.ref 200,Value.ref 201,
   Value.ref 202,Value.int 438 0,Value.int 82 0,
   Value.str (Str.ofString "/claim/cut.py") 439])
 #[]),
 (204,⟨.type "function",none,.func { docDef (dm pw_uf050040_08 26 3).name (dm pw_uf050040_08 26 3).params (dm pw_uf050040_08 26 3).body (dm pw_uf050040_08 26 3).scope (Value.str (Str.ofString "gossipcount.hands") 393) (.ref 203) (Value.none) with qualname:="Hand.down" },#[]⟩),
 (210,Obj.mk (Value.type "code") none
 (Data.fields
  #[Value.str (Str.ofString "page") 441,Value.str (Str.ofString "Hand.page") 442,
   Value.str (Str.ofString "/claim/cut.py") 443,Value.int 87 0,Value.int 1 0,
   Value.int 0 0,Value.int 0 0,Value.int 3 0,Value.ref 205,Value.bool true,
   Value.int 181 0,Value.ref 206,Value.none,Value.ref 207,Value.ref 208,
   Value.ref 209,Value.int 445 0,Value.int 87 0,
   Value.str (Str.ofString "/claim/cut.py") 446])
 #[]),
 (211,⟨.type "function",none,.func { docDef (dm pw_uf050040_08 26 4).name (dm pw_uf050040_08 26 4).params (dm pw_uf050040_08 26 4).body (dm pw_uf050040_08 26 4).scope (Value.str (Str.ofString "gossipcount.hands") 393) (.ref 210) (Value.none) with qualname:="Hand.page" },#[]⟩),
 (217,Obj.mk (Value.type "code") none
 (Data.fields
  #[Value.str (Str.ofString "told") 448,Value.str (Str.ofString "Hand.told") 449,
   Value.str (Str.ofString "/claim/cut.py") 450,Value.int 90 0,Value.int 1 0,
   Value.int 0 0,Value.int 0 0,Value.int 3 0,Value.ref 212,Value.bool true,
   Value.int 181 0,Value.ref 213,Value.none,Value.ref 214,Value.ref 215,
   Value.ref 216,Value.int 452 0,Value.int 90 0,
   Value.str (Str.ofString "/claim/cut.py") 453])
 #[]),
 (218,⟨.type "function",none,.func { docDef (dm pw_uf050040_08 26 5).name (dm pw_uf050040_08 26 5).params (dm pw_uf050040_08 26 5).body (dm pw_uf050040_08 26 5).scope (Value.str (Str.ofString "gossipcount.hands") 393) (.ref 217) (Value.none) with qualname:="Hand.told" },#[]⟩),
 (224,Obj.mk (Value.type "code") none
 (Data.fields
  #[Value.str (Str.ofString "letter") 455,Value.str (Str.ofString "Hand.letter") 456,
   Value.str (Str.ofString "/claim/cut.py") 457,Value.int 93 0,Value.int 2 0,
   Value.int 0 0,Value.int 0 0,Value.int 3 0,Value.ref 219,Value.bool true,
   Value.int 181 0,Value.ref 220,Value.none,Value.ref 221,Value.ref 222,
   Value.ref 223,Value.int 460 0,Value.int 93 0,
   Value.str (Str.ofString "/claim/cut.py") 461])
 #[]),
 (225,⟨.type "function",none,.func { docDef (dm pw_uf050040_08 26 6).name (dm pw_uf050040_08 26 6).params (dm pw_uf050040_08 26 6).body (dm pw_uf050040_08 26 6).scope (Value.str (Str.ofString "gossipcount.hands") 393) (.ref 224) (Value.none) with qualname:="Hand.letter" },#[]⟩),
 (231,Obj.mk (Value.type "code") none
 (Data.fields
  #[Value.str (Str.ofString "trusts") 463,Value.str (Str.ofString "Hand.trusts") 464,
   Value.str (Str.ofString "/claim/cut.py") 465,Value.int 98 0,Value.int 2 0,
   Value.int 0 0,Value.int 0 0,Value.int 3 0,Value.ref 226,Value.bool true,
   Value.int 181 0,Value.ref 227,Value.none,Value.ref 228,Value.ref 229,
   Value.ref 230,Value.int 468 0,Value.int 98 0,
   Value.str (Str.ofString "/claim/cut.py") 469])
 #[]),
 (232,⟨.type "function",none,.func { docDef (dm pw_uf050040_08 26 7).name (dm pw_uf050040_08 26 7).params (dm pw_uf050040_08 26 7).body (dm pw_uf050040_08 26 7).scope (Value.str (Str.ofString "gossipcount.hands") 393) (.ref 231) (Value.none) with qualname:="Hand.trusts" },#[]⟩),
 (238,Obj.mk (Value.type "code") none
 (Data.fields
  #[Value.str (Str.ofString "hear") 471,Value.str (Str.ofString "Hand.hear") 472,
   Value.str (Str.ofString "/claim/cut.py") 473,Value.int 101 0,Value.int 2 0,
   Value.int 0 0,Value.int 0 0,Value.int 3 0,Value.ref 233,Value.bool true,
   Value.int 181 0,Value.ref 234,Value.none,Value.ref 235,Value.ref 236,
   Value.ref 237,Value.int 477 0,Value.int 101 0,
   Value.str (Str.ofString "/claim/cut.py") 478])
 #[]),
 (239,⟨.type "function",none,.func { docDef (dm pw_uf050040_08 26 8).name (dm pw_uf050040_08 26 8).params (dm pw_uf050040_08 26 8).body (dm pw_uf050040_08 26 8).scope (Value.str (Str.ofString "gossipcount.hands") 393) (.ref 238) (Value.none) with qualname:="Hand.hear" },#[]⟩),
 (241,Obj.mk (Value.type "dict") none
 (Data.dict
  #[DictEntry.mk (PyData.keyHash P (Str.ofString "__module__"))
    (Value.str (Str.ofString "__module__") 402)
    (Value.str (Str.ofString "gossipcount.hands") 393),
   DictEntry.mk (PyData.keyHash P (Str.ofString "__firstlineno__"))
    (Value.str (Str.ofString "__firstlineno__") 406) (Value.int 64 405),
   DictEntry.mk (PyData.keyHash P (Str.ofString "__init__"))
    (Value.str (Str.ofString "__init__") 414) (Value.ref 183),
   DictEntry.mk (PyData.keyHash P (Str.ofString "grown"))
    (Value.str (Str.ofString "grown") 424) (Value.ref 190),
   DictEntry.mk (PyData.keyHash P (Str.ofString "up"))
    (Value.str (Str.ofString "up") 432) (Value.ref 197),
   DictEntry.mk (PyData.keyHash P (Str.ofString "down"))
    (Value.str (Str.ofString "down") 440) (Value.ref 204),
   DictEntry.mk (PyData.keyHash P (Str.ofString "page"))
    (Value.str (Str.ofString "page") 447) (Value.ref 211),
   DictEntry.mk (PyData.keyHash P (Str.ofString "told"))
    (Value.str (Str.ofString "told") 454) (Value.ref 218),
   DictEntry.mk (PyData.keyHash P (Str.ofString "letter"))
    (Value.str (Str.ofString "letter") 462) (Value.ref 225),
   DictEntry.mk (PyData.keyHash P (Str.ofString "trusts"))
    (Value.str (Str.ofString "trusts") 470) (Value.ref 232),
   DictEntry.mk (PyData.keyHash P (Str.ofString "hear"))
    (Value.str (Str.ofString "hear") 479) (Value.ref 239),
   DictEntry.mk (PyData.keyHash P (Str.ofString "__static_attributes__"))
    (Value.str (Str.ofString "__static_attributes__") 482) (Value.ref 240),
   DictEntry.mk (PyData.keyHash P (Str.ofString "__dict__"))
    (Value.str (Str.ofString "__dict__") 484) (Value.ref 243),
   DictEntry.mk (PyData.keyHash P (Str.ofString "__weakref__"))
    (Value.str (Str.ofString "__weakref__") 486) (Value.ref 244),
   DictEntry.mk (PyData.keyHash P (Str.ofString "__doc__"))
    (Value.str (Str.ofString "__doc__") 487) Value.none]
  4)
 #[]),
 (242,Obj.mk (Value.type "type") none
 (Data.cls
  (ClassData.mk (Str.ofString "Hand") [Value.type "object"]
   [Value.ref 242,Value.type "object"] 241 (Str.ofString "Hand") true [] [] false
   none false))
 #[none,none,some (Value.str (Str.ofString "Hand") 395),
  some (Value.str (Str.ofString "Hand") 403),some (Value.builtin "object.__new__"),
  some (Value.bool true)])]
noncomputable def viewL:Program:=view PySem.Challenge.rw_uf050040_08.row.prog [1,2,3,4,5,6,8,9,10,11,13,14,15,17,18,19,20,21,22,23,24,26,28,29,30,31,32,33,34,35,36,37,38,39,40,41,42,43,44,45,46,47,48]
noncomputable def hookL:Hook:=kHook KF [1,3,23,24,36,37,48,49,60,61,72,73,84,85,182,183,189,190,196,197,203,204,210,211,217,218,224,225,231,232,238,239,241,242] (fun _=>by kernel_rfl)
theorem saidL:OpenLaw.wellSaid PySem.Challenge.rw_uf050040_08=true:=by kernel_rfl
theorem leftL:LeftO PySem.Challenge.rw_uf050040_08.row.prog viewL [] (fun s=>xlAt viewL [] s && recOk (RowW.records (OpenRow.toRowW PySem.Challenge.rw_uf050040_08.row)) s) (Hook.obs hookL) (Hook.val hookL) 6430:=fun w=>by kernel_rfl
end Mine
set_option linter.unusedVariables false
namespace Mine
section
variable (c:Nat.Internal.Linear.Context)
noncomputable abbrev NE:=Nat.Internal.Linear.Expr
noncomputable abbrev NOk (a b:NE):Prop:=Nat.Internal.Linear.PolyCnstr.isValid (Nat.Internal.Linear.ExprCnstr.toNormPoly ⟨false,a,b⟩)=true
theorem nval {a b:NE} (ok:NOk a b):a.denote c≤b.denote c:=of_eq_true (Nat.Internal.Linear.ExprCnstr.eq_true_of_isValid c ⟨false,a,b⟩ ok)
theorem F1 (l1 r1 l r:NE) (ok:NOk (.add r1 l) (.add l1 r)) (h1:l1.denote c≤r1.denote c):l.denote c≤r.denote c :=
 Nat.le_of_add_le_add_left (Nat.le_trans (nval c ok) (Nat.add_le_add_right h1 _))
theorem F2 (l1 r1 l2 r2 l r:NE) (ok:NOk (.add (.add r1 r2) l) (.add (.add l1 l2) r)) (h1:l1.denote c≤r1.denote c) (h2:l2.denote c≤r2.denote c):l.denote c≤r.denote c :=
 F1 c (.add l1 l2) (.add r1 r2) l r ok (Nat.add_le_add h1 h2)
theorem F3 (l1 r1 l2 r2 l3 r3 l r:NE) (ok:NOk (.add (.add (.add r1 r2) r3) l) (.add (.add (.add l1 l2) l3) r)) (h1:l1.denote c≤r1.denote c) (h2:l2.denote c≤r2.denote c) (h3:l3.denote c≤r3.denote c):l.denote c≤r.denote c :=
 F2 c (.add l1 l2) (.add r1 r2) l3 r3 l r ok (Nat.add_le_add h1 h2) h3
theorem F4 (l1 r1 l2 r2 l3 r3 l4 r4 l r:NE) (ok:NOk (.add (.add (.add (.add r1 r2) r3) r4) l) (.add (.add (.add (.add l1 l2) l3) l4) r)) (h1:l1.denote c≤r1.denote c) (h2:l2.denote c≤r2.denote c) (h3:l3.denote c≤r3.denote c) (h4:l4.denote c≤r4.denote c):l.denote c≤r.denote c :=
 F3 c (.add l1 l2) (.add r1 r2) l3 r3 l4 r4 l r ok (Nat.add_le_add h1 h2) h3 h4
end
section
variable (c:Int.Internal.Linear.Context)
noncomputable abbrev ZE:=Int.Internal.Linear.Expr
noncomputable abbrev ZOk (a b:ZE):Prop:=(Int.Internal.Linear.Expr.norm (.sub a b)).isValidLe=true
theorem zval {a b:ZE} (ok:ZOk a b):a.denote c≤b.denote c:=of_eq_true (Int.Internal.Linear.le_eq_true c a b ok)
theorem Z1 (l1 r1 l r:ZE) (ok:ZOk (.add r1 l) (.add l1 r)) (h1:l1.denote c≤r1.denote c):l.denote c≤r.denote c :=
 Int.le_of_add_le_add_left (Int.le_trans (zval c ok) (Int.add_le_add_right h1 _))
theorem Z2 (l1 r1 l2 r2 l r:ZE) (ok:ZOk (.add (.add r1 r2) l) (.add (.add l1 l2) r)) (h1:l1.denote c≤r1.denote c) (h2:l2.denote c≤r2.denote c):l.denote c≤r.denote c :=
 Z1 c (.add l1 l2) (.add r1 r2) l r ok (Int.add_le_add h1 h2)
theorem Z3 (l1 r1 l2 r2 l3 r3 l r:ZE) (ok:ZOk (.add (.add (.add r1 r2) r3) l) (.add (.add (.add l1 l2) l3) r)) (h1:l1.denote c≤r1.denote c) (h2:l2.denote c≤r2.denote c) (h3:l3.denote c≤r3.denote c):l.denote c≤r.denote c :=
 Z2 c (.add l1 l2) (.add r1 r2) l3 r3 l r ok (Int.add_le_add h1 h2) h3
theorem Z4 (l1 r1 l2 r2 l3 r3 l4 r4 l r:ZE) (ok:ZOk (.add (.add (.add (.add r1 r2) r3) r4) l) (.add (.add (.add (.add l1 l2) l3) l4) r)) (h1:l1.denote c≤r1.denote c) (h2:l2.denote c≤r2.denote c) (h3:l3.denote c≤r3.denote c) (h4:l4.denote c≤r4.denote c):l.denote c≤r.denote c :=
 Z3 c (.add l1 l2) (.add r1 r2) l3 r3 l4 r4 l r ok (Int.add_le_add h1 h2) h3 h4
end
theorem nf (h:(1:Nat)≤0) {P:Prop}:P:=absurd h (by decide)
theorem zf (h:(1:Int)≤0) {P:Prop}:P:=absurd h (by decide)
theorem zmu (k:Nat) {a b:Int} (h:a≤b):(k:Int) * a≤(k:Int) * b:=Int.mul_le_mul_of_nonneg_left h (Int.natCast_nonneg k)
theorem zor {a b:Int} (h:a≤b):a=b∨a+1≤b:=(Int.lt_or_eq_of_le h).symm
noncomputable abbrev pl:NE→NE→NE:=.add
noncomputable abbrev zp:ZE→ZE→ZE:=.add
noncomputable abbrev v0:NE:=.var 0
noncomputable abbrev k0:NE:=.num 0
noncomputable abbrev w0:ZE:=.var 0
noncomputable abbrev l0:ZE:=.num 0
noncomputable abbrev v1:NE:=.var 1
noncomputable abbrev k1:NE:=.num 1
noncomputable abbrev w1:ZE:=.var 1
noncomputable abbrev l1:ZE:=.num 1
noncomputable abbrev v2:NE:=.var 2
noncomputable abbrev k2:NE:=.num 2
noncomputable abbrev w2:ZE:=.var 2
noncomputable abbrev l2:ZE:=.num 2
noncomputable abbrev v3:NE:=.var 3
noncomputable abbrev k3:NE:=.num 3
noncomputable abbrev w3:ZE:=.var 3
noncomputable abbrev l3:ZE:=.num 3
noncomputable abbrev v4:NE:=.var 4
noncomputable abbrev w4:ZE:=.var 4
noncomputable abbrev l4:ZE:=.num 4
noncomputable abbrev v5:NE:=.var 5
noncomputable abbrev k5:NE:=.num 5
noncomputable abbrev w5:ZE:=.var 5
noncomputable abbrev l5:ZE:=.num 5
noncomputable abbrev v6:NE:=.var 6
noncomputable abbrev l6:ZE:=.num 6
noncomputable abbrev v7:NE:=.var 7
noncomputable abbrev v8:NE:=.var 8
noncomputable abbrev k8:NE:=.num 8
noncomputable abbrev l8:ZE:=.num 8
noncomputable abbrev l9:ZE:=.num 9
noncomputable abbrev c1 (x0:Nat):Nat.Internal.Linear.Context:=(.leaf x0)
noncomputable abbrev d1 (x0:Int):Int.Internal.Linear.Context:=(.leaf x0)
noncomputable abbrev c2 (x0 x1:Nat):Nat.Internal.Linear.Context:=(.branch 1 (.leaf x0) (.leaf x1))
noncomputable abbrev d2 (x0 x1:Int):Int.Internal.Linear.Context:=(.branch 1 (.leaf x0) (.leaf x1))
noncomputable abbrev c3 (x0 x1 x2:Nat):Nat.Internal.Linear.Context:=(.branch 1 (.leaf x0) (.branch 2 (.leaf x1) (.leaf x2)))
noncomputable abbrev d3 (x0 x1 x2:Int):Int.Internal.Linear.Context:=(.branch 1 (.leaf x0) (.branch 2 (.leaf x1) (.leaf x2)))
noncomputable abbrev c4 (x0 x1 x2 x3:Nat):Nat.Internal.Linear.Context:=(.branch 2 (.branch 1 (.leaf x0) (.leaf x1)) (.branch 3 (.leaf x2) (.leaf x3)))
noncomputable abbrev d4 (x0 x1 x2 x3:Int):Int.Internal.Linear.Context:=(.branch 2 (.branch 1 (.leaf x0) (.leaf x1)) (.branch 3 (.leaf x2) (.leaf x3)))
noncomputable abbrev c5 (x0 x1 x2 x3 x4:Nat):Nat.Internal.Linear.Context:=(.branch 2 (.branch 1 (.leaf x0) (.leaf x1)) (.branch 3 (.leaf x2) (.branch 4 (.leaf x3) (.leaf x4))))
noncomputable abbrev d5 (x0 x1 x2 x3 x4:Int):Int.Internal.Linear.Context:=(.branch 2 (.branch 1 (.leaf x0) (.leaf x1)) (.branch 3 (.leaf x2) (.branch 4 (.leaf x3) (.leaf x4))))
noncomputable abbrev c6 (x0 x1 x2 x3 x4 x5:Nat):Nat.Internal.Linear.Context:=(.branch 3 (.branch 1 (.leaf x0) (.branch 2 (.leaf x1) (.leaf x2))) (.branch 4 (.leaf x3) (.branch 5 (.leaf x4) (.leaf x5))))
noncomputable abbrev d6 (x0 x1 x2 x3 x4 x5:Int):Int.Internal.Linear.Context:=(.branch 3 (.branch 1 (.leaf x0) (.branch 2 (.leaf x1) (.leaf x2))) (.branch 4 (.leaf x3) (.branch 5 (.leaf x4) (.leaf x5))))
noncomputable abbrev c7 (x0 x1 x2 x3 x4 x5 x6:Nat):Nat.Internal.Linear.Context:=(.branch 3 (.branch 1 (.leaf x0) (.branch 2 (.leaf x1) (.leaf x2))) (.branch 5 (.branch 4 (.leaf x3) (.leaf x4)) (.branch 6 (.leaf x5) (.leaf x6))))
noncomputable abbrev c8 (x0 x1 x2 x3 x4 x5 x6 x7:Nat):Nat.Internal.Linear.Context:=(.branch 4 (.branch 2 (.branch 1 (.leaf x0) (.leaf x1)) (.branch 3 (.leaf x2) (.leaf x3))) (.branch 6 (.branch 5 (.leaf x4) (.leaf x5)) (.branch 7 (.leaf x6) (.leaf x7))))
theorem nsb (a b:Nat):a≤a - b+b:=Nat.sub_le_iff_le_add.mp (Nat.le_refl _)
theorem nsc {a b:Nat} (h:b≤a):a - b+b≤a:=Nat.le_of_eq (Nat.sub_add_cancel h)
theorem nsd {a b:Nat} (h:a≤b):a - b≤0:=Nat.le_of_eq (Nat.sub_eq_zero_of_le h)
theorem nml {a b:Nat} (h:a≤b):a≤min a b:=Nat.le_min.mpr ⟨Nat.le_refl a,h⟩
theorem nmr {a b:Nat} (h:b≤a):b≤min a b:=Nat.le_min.mpr ⟨h,Nat.le_refl b⟩
theorem nxl {a b:Nat} (h:a≤b):max a b≤b:=Nat.max_le.mpr ⟨h,Nat.le_refl b⟩
theorem nxr {a b:Nat} (h:b≤a):max a b≤a:=Nat.max_le.mpr ⟨Nat.le_refl a,h⟩
theorem nmo (k a:Nat):a % k+k * (a / k)≤a:=Nat.le_of_eq (Nat.mod_add_div a k)
theorem nmp (k a:Nat):a≤a % k+k * (a / k):=Nat.le_of_eq (Nat.mod_add_div a k).symm
theorem nmk (k a:Nat) (h:Nat.ble 1 k=true):a % k+1≤k:=Nat.mod_lt a (Nat.le_of_ble_eq_true h)
theorem zmo (k a:Int):a % k+k * (a / k)≤a:=Int.le_of_eq (Int.emod_add_mul_ediv a k)
theorem zmp (k a:Int):a≤a % k+k * (a / k):=Int.le_of_eq (Int.emod_add_mul_ediv a k).symm
theorem zmz (k a:Int) (h:decide (0 < k)=true):0≤a % k:=Int.emod_nonneg a (Int.ne_of_gt (of_decide_eq_true h))
theorem zmk (k a:Int) (h:decide (0 < k)=true):a % k+1≤k:=Int.emod_lt_of_pos a (of_decide_eq_true h)
theorem ztn (z:Int):z≤(z.toNat:Int):=Int.self_le_toNat z
theorem ztp {z:Int} (h:0≤z):(z.toNat:Int)≤z:=Int.le_of_eq (Int.toNat_of_nonneg h)
theorem ztq {z:Int} (h:z≤0):(z.toNat:Int)≤0:=Int.le_of_eq (by rw [Int.toNat_of_nonpos h];rfl)
theorem zml {a b:Int} (h:a≤b):a≤min a b:=Int.le_min.mpr ⟨Int.le_refl a,h⟩
theorem zmr {a b:Int} (h:b≤a):b≤min a b:=Int.le_min.mpr ⟨h,Int.le_refl b⟩
theorem zyl {a b:Int} (h:a≤b):max a b≤b:=Int.max_le.mpr ⟨h,Int.le_refl b⟩
theorem zyr {a b:Int} (h:b≤a):max a b≤a:=Int.max_le.mpr ⟨Int.le_refl a,h⟩
end Mine
namespace Mine
theorem qHM {a b c f:Nat} (A:max a 1≤b) (B:c < f+(b+1)):c - 1 < f+b:=(Nat.le_total 1 c).elim (fun e14=>(F2 (c4 b c f (c - 1)) (pl v1 k1) (pl v2 (pl v0 k1)) (pl v3 k1) v1 (pl v3 k1) (pl v2 v0) rfl B (nsc e14))) (fun e15=>(F3 (c4 (max a 1) b f (c - 1)) v0 v1 v3 k0 k1 v0 (pl v3 k1) (pl v2 v1) rfl A (nsd e15) (Nat.le_max_right a 1)))
theorem qHh {a b c f:Nat} (A:a≤b) (B:a=c+f) (C:¬ b=c+f):c+f≤b - 1:=(Nat.lt_or_gt_of_ne C).elim (fun e2=>(nf (F3 (c4 a b c f) v0 v1 (pl v2 v3) v0 (pl v1 k1) (pl v2 v3) k1 k0 rfl A (Nat.le_of_eq B.symm) e2))) (fun e3=>(F2 (c4 b c f (b - 1)) (pl (pl v1 v2) k1) v0 v0 (pl v3 k1) (pl v1 v2) v3 rfl e3 (nsb b 1)))
theorem qGJ {a b c f g:Nat} (A:a≤b) (B:b < c+(f+1)) (C:¬ a=c+g) (D:¬ (c+g < a∧a≤c+f)):a < c+g:=(Nat.lt_or_gt_of_ne C).elim (fun e2=>(F1 (c3 a c g) (pl v0 k1) (pl v1 v2) (pl v0 k1) (pl v1 v2) rfl e2)) (fun e3=>((Decidable.not_and_iff_not_or_not.mp D).elim (fun e5=>(F2 (c3 a c g) (pl (pl v1 v2) k1) v0 (.mulL 2 v0) (.mulL 2 (pl v1 v2)) (pl v0 k1) (pl v1 v2) rfl e3 (Nat.mul_le_mul_left 2 (Nat.le_of_not_lt e5)))) (fun e6=>(nf (F3 (c4 a b c f) v0 v1 (pl v1 k1) (pl v2 (pl v3 k1)) (pl (pl v2 v3) k1) v0 k1 k0 rfl A B (Nat.lt_of_not_le e6))))))
theorem qC5 {a b c:Nat} (A:a≤b):c+b - (c+b - (c+a))=c+a:=Nat.le_antisymm ((Nat.le_total (c+b - (c+a)) (c+b)).elim (fun e9=>(F2 (c5 a b (c+b - (c+a)) c (c+b - (c+b - (c+a)))) (pl v4 v2) (pl v3 v1) (pl v3 v1) (pl v2 (pl v3 v0)) v4 (pl v3 v0) rfl (nsc e9) (nsb (c+b) (c+a)))) (fun e10=>(F1 (c3 a c (c+b - (c+b - (c+a)))) v2 k0 v2 (pl v1 v0) rfl (nsd e10)))) ((Nat.le_total (c+a) (c+b)).elim (fun e12=>(F2 (c5 a b c (c+b - (c+a)) (c+b - (c+b - (c+a)))) (pl v3 (pl v2 v0)) (pl v2 v1) (pl v2 v1) (pl v4 v3) (pl v2 v0) v4 rfl (nsc e12) (nsb (c+b) (c+b - (c+a))))) (fun e13=>(F3 (c5 a b c (c+b - (c+a)) (c+b - (c+b - (c+a)))) v0 v1 v3 k0 (pl v2 v1) (pl v4 v3) (pl v2 v0) v4 rfl A (nsd e13) (nsb (c+b) (c+b - (c+a))))))
theorem qAa {a b c:Nat} :a+b - (a+c)≤a+b:=F1 (c3 a b (a+b - (a+c))) v2 (pl v0 v1) v2 (pl v0 v1) rfl (Nat.sub_le (a+b) (a+c))
theorem qCX {a b:Nat} (A:a < b):min (a+1) b=a+1:=Nat.le_antisymm (F1 (c2 a (min (a+1) b)) v1 (pl v0 k1) v1 (pl v0 k1) rfl (Nat.min_le_left (a+1) b)) ((Nat.le_total (a+1) b).elim (fun e2=>(F1 (c2 a (min (a+1) b)) (pl v0 k1) v1 (pl v0 k1) v1 rfl (nml e2))) (fun e3=>(F2 (c3 a b (min (a+1) b)) (pl v0 k1) v1 v1 v2 (pl v0 k1) v2 rfl A (nmr e3))))
theorem qFt {a b c f g:Nat} (A:a < b) (B:c < f∨f+b≤c):¬ (f+a - (f+a - (f+g)) < c∧c≤f+a):=(fun e1=>(nf (B.elim (fun e2=>((Nat.le_total (f+g) (f+a)).elim (fun e4=>(F4 (c6 a (f+a - (f+a - (f+g))) c f g (f+a - (f+g))) (pl v1 k1) v2 (pl v2 k1) v3 (pl v5 (pl v3 v4)) (pl v3 v0) (pl v3 v0) (pl v1 v5) k1 k0 rfl e1.1 e2 (nsc e4) (nsb (f+a) (f+a - (f+g))))) (fun e5=>(F4 (c5 a (f+a - (f+a - (f+g))) c f (f+a - (f+g))) (pl v1 k1) v2 v2 (pl v3 v0) v4 k0 (pl v3 v0) (pl v1 v4) k1 k0 rfl e1.1 e1.2 (nsd e5) (nsb (f+a) (f+a - (f+g))))))) (fun e3=>(F3 (c4 a b c f) (pl v0 k1) v1 v2 (pl v3 v0) (pl v3 v1) v2 k1 k0 rfl A e1.2 e3)))))
theorem qHf {a b c f g:Nat} (A:a < b) (B:c < f∨f+b≤c):¬ c=f+a - (f+a - (f+g)):=(fun e1=>(nf (B.elim (fun e2=>((Nat.le_total (f+g) (f+a)).elim (fun e4=>(F4 (c6 a c (f+a - (f+a - (f+g))) f g (f+a - (f+g))) v2 v1 (pl v1 k1) v3 (pl v5 (pl v3 v4)) (pl v3 v0) (pl v3 v0) (pl v2 v5) k1 k0 rfl (Nat.le_of_eq e1.symm) e2 (nsc e4) (nsb (f+a) (f+a - (f+g))))) (fun e5=>(F4 (c5 a c (f+a - (f+a - (f+g))) f (f+a - (f+g))) v2 v1 (pl v1 k1) v3 v4 k0 (pl v3 v0) (pl v2 v4) k1 k0 rfl (Nat.le_of_eq e1.symm) e2 (nsd e5) (nsb (f+a) (f+a - (f+g))))))) (fun e3=>(F4 (c5 a b c (f+a - (f+a - (f+g))) f) (pl v0 k1) v1 v2 v3 (pl v4 v1) v2 v3 (pl v4 v0) k1 k0 rfl A (Nat.le_of_eq e1) e3 (Nat.sub_le (f+a) (f+a - (f+g))))))))
theorem qBX {a b c f g:Nat} (A:a+b≤c+f) (B:c≤g):a+(b+1)≤g+1+f:=F2 (c5 a b c f g) (pl v0 v1) (pl v2 v3) v2 v4 (pl v0 (pl v1 k1)) (pl (pl v4 k1) v3) rfl A B
theorem qBS {a b c f g:Nat} (A:a+b≤c+f) (B:g < a):g+(b+1)≤c+f:=F2 (c5 a b c f g) (pl v0 v1) (pl v2 v3) (pl v4 k1) v0 (pl v4 (pl v1 k1)) (pl v2 v3) rfl A B
theorem qGC {a b:Nat} (A:¬ a≥b):(a+b) / 2 < b:=Nat.le_of_not_lt fun e1=>nf (F3 (c4 a b ((a+b) % 2) ((a+b) / 2)) (pl v0 k1) v1 (pl v2 (.mulL 2 v3)) (pl v0 v1) (.mulL 2 (pl v1 k1)) (.mulL 2 (pl v3 k1)) k1 k0 rfl (Nat.lt_of_not_le A) (nmo 2 (a+b)) (Nat.mul_le_mul_left 2 e1))
theorem qCW {a b:Nat} (A:a≤b):a≤(a+b) / 2:=Nat.le_of_not_lt fun e1=>nf (F4 (c4 a b ((a+b) % 2) ((a+b) / 2)) v0 v1 (pl v0 v1) (pl v2 (.mulL 2 v3)) (pl v2 k1) k2 (.mulL 2 (pl v3 k1)) (.mulL 2 v0) k1 k0 rfl A (nmp 2 (a+b)) (nmk 2 (a+b) rfl) (Nat.mul_le_mul_left 2 e1))
theorem qAe {a b:Nat} (A:a≤b) (B:a≥b):a=b:=Nat.le_antisymm (F1 (c2 a b) v0 v1 v0 v1 rfl A) (F1 (c2 a b) v1 v0 v1 v0 rfl B)
theorem qBO {a b c:Nat} (A:a≤b) (B:b+max 0 c≤a+c):a=b:=Nat.le_antisymm (F1 (c2 a b) v0 v1 v0 v1 rfl A) (F2 (c4 a b (max 0 c) c) (pl v1 v2) (pl v0 v3) v3 v2 v1 v0 rfl B (Nat.le_max_right 0 c))
theorem qAD {a b c f:Nat} (A:a+b≤c) (B:f < b):a+f < c:=F2 (c4 a b c f) (pl v0 v1) v2 (pl v3 k1) v1 (pl (pl v0 v3) k1) v2 rfl A B
theorem qDd {a b:Nat} (A:a < b):min a b=a:=Nat.le_antisymm (F1 (c2 a (min a b)) v1 v0 v1 v0 rfl (Nat.min_le_left a b)) ((Nat.le_total a b).elim (fun e2=>(F1 (c2 a (min a b)) v0 v1 v0 v1 rfl (nml e2))) (fun e3=>(F2 (c3 a b (min a b)) (pl v0 k1) v1 v1 v2 v0 v2 rfl A (nmr e3))))
theorem qFF {a b:Nat} :min (max (max a 1) b) b=b:=Nat.le_antisymm (F1 (c2 b (min (max (max a 1) b) b)) v1 v0 v1 v0 rfl (Nat.min_le_right (max (max a 1) b) b)) ((Nat.le_total (max (max a 1) b) b).elim (fun e90=>(F2 (c3 (max (max a 1) b) b (min (max (max a 1) b) b)) v0 v2 v1 v0 v1 v2 rfl (nml e90) (Nat.le_max_right (max a 1) b))) (fun e91=>(F1 (c2 b (min (max (max a 1) b) b)) v0 v1 v0 v1 rfl (nmr e91))))
theorem qGR {a b c f:Nat} (A:a < b+min (max c 1) f) (B:¬ c=0):a < b+c:=(Nat.lt_or_gt_of_ne B).elim (fun e2=>(nf (F1 (c1 c) (pl v0 k1) k0 k1 k0 rfl e2))) (fun e3=>((Nat.le_total c 1).elim (fun e6=>(F4 (c5 a b (min (max c 1) f) c (max c 1)) (pl v0 k1) (pl v1 v2) (pl k0 k1) v3 v4 k1 v2 v4 (pl v0 k1) (pl v1 v3) rfl A e3 (nxl e6) (Nat.min_le_left (max c 1) f))) (fun e7=>(F3 (c5 a b (min (max c 1) f) c (max c 1)) (pl v0 k1) (pl v1 v2) v4 v3 v2 v4 (pl v0 k1) (pl v1 v3) rfl A (nxr e7) (Nat.min_le_left (max c 1) f)))))
theorem qG1 {a b c f g:Nat} (A:a≤b) (B:b≤c) (C:c < a+min (max f 1) g) (D:f=0):b=c:=Nat.le_antisymm (F1 (c2 b c) v0 v1 v0 v1 rfl B) ((Nat.le_total f 1).elim (fun e2=>(F4 (c5 a b c (min (max f 1) g) (max f 1)) v0 v1 (pl v2 k1) (pl v0 v3) v4 k1 v3 v4 v2 v1 rfl A C (nxl e2) (Nat.min_le_left (max f 1) g))) (fun e3=>(nf (F2 (c1 f) v0 k0 k1 v0 k1 k0 rfl (Nat.le_of_eq D) e3))))
theorem qA4 {a b c:Nat} (A:a≤b) (B:b≤c) (C:c < a+1):b=c:=Nat.le_antisymm (F1 (c2 b c) v0 v1 v0 v1 rfl B) (F2 (c3 a b c) v0 v1 (pl v2 k1) (pl v0 k1) v2 v1 rfl A C)
theorem qG3 {a:Nat} (A:1≤a) (B:¬ 1=a):1+1≤a:=(Nat.lt_or_gt_of_ne B).elim (fun e2=>(F1 (c1 a) (pl k1 k1) v0 (pl k1 k1) v0 rfl e2)) (fun e3=>(F2 (c1 a) (.mulL 2 k1) (.mulL 2 v0) (pl v0 k1) k1 (pl k1 k1) v0 rfl (Nat.mul_le_mul_left 2 A) e3))
theorem qHp {a:Nat} (A:1≤a) (B:¬ a > 1):a=1:=Nat.le_antisymm (F1 (c1 a) v0 k1 v0 k1 rfl (Nat.le_of_not_lt B)) (F1 (c1 a) k1 v0 k1 v0 rfl A)
theorem qBP {a b c:Nat} (A:a≤b) (B:b≤c):a≤c:=F2 (c3 a b c) v0 v1 v1 v2 v0 v2 rfl A B
theorem qEe {a b c f:Nat} (A:a≤b) (B:b < c+f):a < c+f:=F2 (c4 a b c f) v0 v1 (pl v1 k1) (pl v2 v3) (pl v0 k1) (pl v2 v3) rfl A B
theorem qAC {a b c f:Nat} (A:a+b≤c) (B:f≤b):a+f≤c:=F2 (c4 a b c f) (pl v0 v1) v2 v3 v1 (pl v0 v3) v2 rfl A B
theorem qAK {a b c:Nat} (A:a≤b):c+a≤c+b:=F1 (c3 a b c) v0 v1 (pl v2 v0) (pl v2 v1) rfl A
theorem qAj {a:Nat} :a≤a:=nval (c1 a) (a:=v0) (b:=v0) rfl
theorem qFH {a b:Nat} (A:a≤b) (B:¬ a=b):a+1≤b:=(Nat.lt_or_gt_of_ne B).elim (fun e2=>(F1 (c2 a b) (pl v0 k1) v1 (pl v0 k1) v1 rfl e2)) (fun e3=>(F2 (c2 a b) (.mulL 2 v0) (.mulL 2 v1) (pl v1 k1) v0 (pl v0 k1) v1 rfl (Nat.mul_le_mul_left 2 A) e3))
theorem qAV {a b:Nat} (A:1≤a):b+a - 1 < b+a:=(Nat.le_total 1 (b+a)).elim (fun e2=>(F1 (c3 a b (b+a - 1)) (pl v2 k1) (pl v1 v0) (pl v2 k1) (pl v1 v0) rfl (nsc e2))) (fun e3=>(F2 (c3 a b (b+a - 1)) k1 v0 v2 k0 (pl v2 k1) (pl v1 v0) rfl A (nsd e3)))
theorem qEd {a b c:Nat} (A:a < b+c):a≤b+c - 1:=F2 (c4 a b c (b+c - 1)) (pl v0 k1) (pl v1 v2) (pl v1 v2) (pl v3 k1) v0 v3 rfl A (nsb (b+c) 1)
theorem qDv {a b c f:Nat} (A:a+b≤c) (B:1≤b) (C:f≤b):a+f - 1 < c:=(Nat.le_total 1 (a+f)).elim (fun e2=>(F3 (c5 a b c f (a+f - 1)) (pl v0 v1) v2 v3 v1 (pl v4 k1) (pl v0 v3) (pl v4 k1) v2 rfl A C (nsc e2))) (fun e3=>(F3 (c4 a b c (a+f - 1)) (pl v0 v1) v2 k1 v1 v3 k0 (pl v3 k1) v2 rfl A B (nsd e3)))
theorem qGB {a b c:Nat} (A:a+b≤c) (B:1≤b):a < c:=F2 (c3 a b c) (pl v0 v1) v2 k1 v1 (pl v0 k1) v2 rfl A B
theorem qAx {a b:Nat} (A:a+1≤b):1≤b:=F1 (c2 a b) (pl v0 k1) v1 k1 v1 rfl A
theorem qBI {a b c:Nat} (A:a+1≤b):c≤c+b - (a+1):=F2 (c4 a b c (c+b - (a+1))) (pl v0 k1) v1 (pl v2 v1) (pl v3 (pl v0 k1)) v2 v3 rfl A (nsb (c+b) (a+1))
theorem qCD {a:Nat} :1≤a+1:=nval (c1 a) (a:=k1) (b:=(pl v0 k1)) rfl
theorem qGv {a b c:Nat} (A:a < b+(c+1)) (B:¬ a=b+c):a < b+c:=(Nat.lt_or_gt_of_ne B).elim (fun e2=>(F1 (c3 a b c) (pl v0 k1) (pl v1 v2) (pl v0 k1) (pl v1 v2) rfl e2)) (fun e3=>(F2 (c3 a b c) (.mulL 2 (pl v0 k1)) (.mulL 2 (pl v1 (pl v2 k1))) (pl (pl v1 v2) k1) v0 (pl v0 k1) (pl v1 v2) rfl (Nat.mul_le_mul_left 2 A) e3))
theorem qGd {a b c f:Nat} (A:a+(b+1) - (c+1+1)≤f):a+b - (c+1)≤f:=(Nat.le_total (c+1) (a+b)).elim (fun e14=>(F3 (c6 (a+(b+1) - (c+1+1)) f c a b (a+b - (c+1))) v0 v1 (pl v5 (pl v2 k1)) (pl v3 v4) (pl v3 (pl v4 k1)) (pl v0 (pl (pl v2 k1) k1)) v5 v1 rfl A (nsc e14) (nsb (a+(b+1)) (c+1+1)))) (fun e15=>(F1 (c2 f (a+b - (c+1))) v1 k0 v1 v0 rfl (nsd e15)))
theorem qDY {a b:Nat} :a+(b+1) - 1=a+b:=Nat.le_antisymm ((Nat.le_total 1 (a+(b+1))).elim (fun e2=>(F1 (c3 a b (a+(b+1) - 1)) (pl v2 k1) (pl v0 (pl v1 k1)) v2 (pl v0 v1) rfl (nsc e2))) (fun e3=>(F1 (c3 a b (a+(b+1) - 1)) v2 k0 v2 (pl v0 v1) rfl (nsd e3)))) (F1 (c3 a b (a+(b+1) - 1)) (pl v0 (pl v1 k1)) (pl v2 k1) (pl v0 v1) v2 rfl (nsb (a+(b+1)) 1))
theorem qF2 {a b:Nat} (A:a+1≤b):a+1+1≤b+1:=F1 (c2 a b) (pl v0 k1) v1 (pl (pl v0 k1) k1) (pl v1 k1) rfl A
theorem qAR {a b:Nat} (A:1≤a) (B:a≤b):1≤b:=F2 (c2 a b) k1 v0 v0 v1 k1 v1 rfl A B
theorem qAh {a b c f:Nat} (A:a+b≤c) (B:f < b):a+f - 1 < c:=F3 (c5 a b c f (a+f - 1)) (pl v0 v1) v2 (pl v3 k1) v1 v4 (pl v0 v3) (pl v4 k1) v2 rfl A B (Nat.sub_le (a+f) 1)
theorem qBg {a b c:Nat} (A:a+(b+1) - (0+1)≤c) (B:c < a+(b+1)):c=a+(b+1) - 1:=Nat.le_antisymm (F2 (c4 c a b (a+(b+1) - 1)) (pl v0 k1) (pl v1 (pl v2 k1)) (pl v1 (pl v2 k1)) (pl v3 k1) v0 v3 rfl B (nsb (a+(b+1)) 1)) ((Nat.le_total 1 (a+(b+1))).elim (fun e14=>(F3 (c5 (a+(b+1) - (0+1)) c a b (a+(b+1) - 1)) v0 v1 (pl v4 k1) (pl v2 (pl v3 k1)) (pl v2 (pl v3 k1)) (pl v0 (pl k0 k1)) v4 v1 rfl A (nsc e14) (nsb (a+(b+1)) (0+1)))) (fun e15=>(F1 (c2 c (a+(b+1) - 1)) v1 k0 v1 v0 rfl (nsd e15))))
theorem qBR {a:Nat} :0+1≤a+1:=nval (c1 a) (a:=(pl k0 k1)) (b:=(pl v0 k1)) rfl
theorem qBV {a b c f:Nat} (A:a+b≤c) (B:f < b):a+f≤c:=F2 (c4 a b c f) (pl v0 v1) v2 (pl v3 k1) v1 (pl v0 v3) v2 rfl A B
theorem qCC {a b c:Nat} (A:a < b):c+a≤c+b:=F1 (c3 a b c) (pl v0 k1) v1 (pl v2 v0) (pl v2 v1) rfl A
theorem qAs {a b:Nat} (A:a≤b):max a b=b:=Nat.le_antisymm ((Nat.le_total a b).elim (fun e2=>(F1 (c2 b (max a b)) v1 v0 v1 v0 rfl (nxl e2))) (fun e3=>(F2 (c3 a b (max a b)) v0 v1 v2 v0 v2 v1 rfl A (nxr e3)))) (F1 (c2 b (max a b)) v0 v1 v0 v1 rfl (Nat.le_max_right a b))
theorem qGr {a b c:Nat} (A:a+b - (0+1)≤c) (B:c < a+b):c=a+b - 1:=Nat.le_antisymm (F2 (c4 c a b (a+b - 1)) (pl v0 k1) (pl v1 v2) (pl v1 v2) (pl v3 k1) v0 v3 rfl B (nsb (a+b) 1)) ((Nat.le_total 1 (a+b)).elim (fun e14=>(F3 (c5 (a+b - (0+1)) c a b (a+b - 1)) v0 v1 (pl v4 k1) (pl v2 v3) (pl v2 v3) (pl v0 (pl k0 k1)) v4 v1 rfl A (nsc e14) (nsb (a+b) (0+1)))) (fun e15=>(F1 (c2 c (a+b - 1)) v1 k0 v1 v0 rfl (nsd e15))))
theorem qB7 {a b c:Nat} (A:1≤a) (B:b≤c):b+(b+a) - 1 - c < b+a:=(Nat.le_total c (b+(b+a) - 1)).elim (fun e9=>((Nat.le_total 1 (b+(b+a))).elim (fun e12=>(F3 (c5 a b c (b+(b+a) - 1) (b+(b+a) - 1 - c)) v1 v2 (pl v4 v2) v3 (pl v3 k1) (pl v1 (pl v1 v0)) (pl v4 k1) (pl v1 v0) rfl B (nsc e9) (nsc e12))) (fun e13=>(F3 (c5 a b c (b+(b+a) - 1) (b+(b+a) - 1 - c)) k1 v0 (pl v4 v2) v3 v3 k0 (pl v4 k1) (pl v1 v0) rfl A (nsc e9) (nsd e13))))) (fun e10=>(F2 (c3 a b (b+(b+a) - 1 - c)) k1 v0 v2 k0 (pl v2 k1) (pl v1 v0) rfl A (nsd e10)))
theorem qDa {a b c f:Nat} (A:a≤b):c+(c+f) - 1 - b≤c+(c+f) - 1 - a:=(Nat.le_total b (c+(c+f) - 1)).elim (fun e25=>(F3 (c5 a b (c+(c+f) - 1) (c+(c+f) - 1 - b) (c+(c+f) - 1 - a)) v0 v1 (pl v3 v1) v2 v2 (pl v4 v0) v3 v4 rfl A (nsc e25) (nsb (c+(c+f) - 1) a))) (fun e26=>(F1 (c2 (c+(c+f) - 1 - b) (c+(c+f) - 1 - a)) v0 k0 v0 v1 rfl (nsd e26)))
theorem qDP {a b c:Nat} (A:a < b+c):b≤b+(b+c) - 1 - a:=F3 (c5 a b c (b+(b+c) - 1) (b+(b+c) - 1 - a)) (pl v0 k1) (pl v1 v2) (pl v1 (pl v1 v2)) (pl v3 k1) v3 (pl v4 v0) v1 v4 rfl A (nsb (b+(b+c)) 1) (nsb (b+(b+c) - 1) a)
theorem qFE {a b c f:Nat} (A:a≤b) (B:b≤c) (C:c < a+f):a≤c∧c < a+f:=⟨(F2 (c3 a b c) v0 v1 v1 v2 v0 v2 rfl A B),(F1 (c3 a c f) (pl v1 k1) (pl v0 v2) (pl v1 k1) (pl v0 v2) rfl C)⟩
theorem qCg {a b c f:Nat} (A:a≤b) (B:b≤c) (C:c < a+f):a≤b∧b < a+f:=⟨(F1 (c2 a b) v0 v1 v0 v1 rfl A),(F2 (c4 a b c f) v1 v2 (pl v2 k1) (pl v0 v3) (pl v1 k1) (pl v0 v3) rfl B C)⟩
theorem qGS {a b c f g:Nat} (A:a≤b) (B:c≤f) (C:g < a∨f≤g):¬ (b≤g∧g < c):=(fun e1=>(nf (C.elim (fun e2=>(F3 (c3 a b g) v0 v1 v1 v2 (pl v2 k1) v0 k1 k0 rfl A e1.1 e2)) (fun e3=>(F3 (c3 c f g) v0 v1 (pl v2 k1) v0 v1 v2 k1 k0 rfl B e1.2 e3)))))
theorem qAk {a b c:Nat} (A:a≤b) (B:b < c):a < c:=F2 (c3 a b c) v0 v1 (pl v1 k1) v2 (pl v0 k1) v2 rfl A B
theorem qBl {a b c:Nat} (A:a≤b+c) (B:¬ a=b+c):a≤b+c - 1:=(Nat.lt_or_gt_of_ne B).elim (fun e2=>(F2 (c4 a b c (b+c - 1)) (pl v0 k1) (pl v1 v2) (pl v1 v2) (pl v3 k1) v0 v3 rfl e2 (nsb (b+c) 1))) (fun e3=>(F3 (c4 a b c (b+c - 1)) (.mulL 2 v0) (.mulL 2 (pl v1 v2)) (pl (pl v1 v2) k1) v0 (pl v1 v2) (pl v3 k1) v0 v3 rfl (Nat.mul_le_mul_left 2 A) e3 (nsb (b+c) 1)))
theorem qBn {a b c:Nat} (A:a < b+(c+1)) (B:¬ a < b+c):a=b+c:=Nat.le_antisymm (F1 (c3 a b c) (pl v0 k1) (pl v1 (pl v2 k1)) v0 (pl v1 v2) rfl A) (F1 (c3 a b c) (pl v1 v2) v0 (pl v1 v2) v0 rfl (Nat.le_of_not_lt B))
theorem qDf {a b:Nat} (A:a≤b) (B:¬ a=b):a < b:=(Nat.lt_or_gt_of_ne B).elim (fun e2=>(F1 (c2 a b) (pl v0 k1) v1 (pl v0 k1) v1 rfl e2)) (fun e3=>(F2 (c2 a b) (.mulL 2 v0) (.mulL 2 v1) (pl v1 k1) v0 (pl v0 k1) v1 rfl (Nat.mul_le_mul_left 2 A) e3))
theorem qDO {a b:Nat} :a - b=b+(a - b) - b:=Nat.le_antisymm (F1 (c3 (a - b) b (b+(a - b) - b)) (pl v1 v0) (pl v2 v1) v0 v2 rfl (nsb (b+(a - b)) b)) ((Nat.le_total b (b+(a - b))).elim (fun e14=>(F1 (c3 b (a - b) (b+(a - b) - b)) (pl v2 v0) (pl v0 v1) v2 v1 rfl (nsc e14))) (fun e15=>(F1 (c2 (a - b) (b+(a - b) - b)) v1 k0 v1 v0 rfl (nsd e15))))
theorem qDK {a b:Nat} (A:a≤b):b=a+(b - a):=Nat.le_antisymm (F1 (c3 a b (b - a)) v1 (pl v2 v0) v1 (pl v0 v2) rfl (nsb b a)) ((Nat.le_total a b).elim (fun e2=>(F1 (c3 a b (b - a)) (pl v2 v0) v1 (pl v0 v2) v1 rfl (nsc e2))) (fun e3=>(F2 (c3 a b (b - a)) v0 v1 v2 k0 (pl v0 v2) v1 rfl A (nsd e3))))
theorem qAm {a b c:Nat} (A:a < b):c+a < c+b:=F1 (c3 a b c) (pl v0 k1) v1 (pl (pl v2 v0) k1) (pl v2 v1) rfl A
theorem qAE {a b:Nat} :a≤a+b:=nval (c2 a b) (a:=v0) (b:=(pl v0 v1)) rfl
theorem qEZ {a b:Nat} :a+b - a=b:=Nat.le_antisymm ((Nat.le_total a (a+b)).elim (fun e2=>(F1 (c3 a b (a+b - a)) (pl v2 v0) (pl v0 v1) v2 v1 rfl (nsc e2))) (fun e3=>(F1 (c2 b (a+b - a)) v1 k0 v1 v0 rfl (nsd e3)))) (F1 (c3 a b (a+b - a)) (pl v0 v1) (pl v2 v0) v1 v2 rfl (nsb (a+b) a))
theorem qDo {a b:Nat} (A:¬ a≥b+1):a≤b:=F1 (c2 a b) (pl v0 k1) (pl v1 k1) v0 v1 rfl (Nat.lt_of_not_le A)
theorem qBt {a b:Nat} (A:a+1≤b):a+1+1≤2 * b+1:=F1 (c2 a b) (pl v0 k1) v1 (pl (pl v0 k1) k1) (pl (.mulL 2 v1) k1) rfl A
theorem qBm {a:Nat} :a < 2 * a+1:=nval (c1 a) (a:=(pl v0 k1)) (b:=(pl (.mulL 2 v0) k1)) rfl
theorem qBT {a b c:Nat} (A:a < b):a - c < b:=F2 (c3 a b (a - c)) (pl v0 k1) v1 v2 v0 (pl v2 k1) v1 rfl A (Nat.sub_le a c)
theorem qF3 {a b c:Nat} (A:a < b) (B:max 0 b+1≤c):a+1≤c:=F3 (c4 a b (max 0 b) c) (pl v0 k1) v1 (pl v2 k1) v3 v1 v2 (pl v0 k1) v3 rfl A B (Nat.le_max_right 0 b)
theorem qDw {a b c:Nat} (A:a < b+1 - min c (b+1)):a≤b - c:=(Nat.le_total (min c (b+1)) (b+1)).elim (fun e34=>((Nat.le_total c (b+1)).elim (fun e37=>(F4 (c6 a (b+1 - min c (b+1)) (min c (b+1)) b c (b - c)) (pl v0 k1) v1 (pl v1 v2) (pl v3 k1) v4 v2 v3 (pl v5 v4) v0 v5 rfl A (nsc e34) (nml e37) (nsb b c))) (fun e38=>(F3 (c5 a (b+1 - min c (b+1)) (min c (b+1)) b (b - c)) (pl v0 k1) v1 (pl v1 v2) (pl v3 k1) (pl v3 k1) v2 v0 v4 rfl A (nsc e34) (nmr e38))))) (fun e35=>(F2 (c3 a (b+1 - min c (b+1)) (b - c)) (pl v0 k1) v1 v1 k0 v0 v2 rfl A (nsd e35)))
theorem qEj {a b c:Nat} (A:a < b):a - c≤b:=F2 (c3 a b (a - c)) (pl v0 k1) v1 v2 v0 v2 v1 rfl A (Nat.sub_le a c)
theorem qFl {a b c:Nat} (A:a < b):c+1 - min b (c+1)≤c - a:=(Nat.le_total (min b (c+1)) (c+1)).elim (fun e46=>((Nat.le_total b (c+1)).elim (fun e49=>(F4 (c6 a b (min b (c+1)) c (c+1 - min b (c+1)) (c - a)) (pl v0 k1) v1 (pl v4 v2) (pl v3 k1) v1 v2 v3 (pl v5 v0) v4 v5 rfl A (nsc e46) (nml e49) (nsb c a))) (fun e50=>(F2 (c4 (min b (c+1)) c (c+1 - min b (c+1)) (c - a)) (pl v2 v0) (pl v1 k1) (pl v1 k1) v0 v2 v3 rfl (nsc e46) (nmr e50))))) (fun e47=>(F1 (c2 (c+1 - min b (c+1)) (c - a)) v0 k0 v0 v1 rfl (nsd e47)))
theorem qEH {a b c:Nat} (A:¬ a≥b - c):c+a < b:=(Nat.le_total c b).elim (fun e2=>(F2 (c4 a (b - c) c b) (pl v0 k1) v1 (pl v1 v2) v3 (pl (pl v2 v0) k1) v3 rfl (Nat.lt_of_not_le A) (nsc e2))) (fun e3=>(nf (F2 (c2 a (b - c)) (pl v0 k1) v1 v1 k0 k1 k0 rfl (Nat.lt_of_not_le A) (nsd e3))))
theorem qDl {a b c:Nat} (A:max 0 a+1≤b):a - c≤b:=F3 (c4 (max 0 a) b a (a - c)) (pl v0 k1) v1 v2 v0 v3 v2 v3 v1 rfl A (Nat.le_max_right 0 a) (Nat.sub_le a c)
theorem qGW {a b c:Nat} (A:a < b):a+min c (b - a)≤b:=(Nat.le_total a b).elim (fun e2=>(F2 (c4 a b (b - a) (min c (b - a))) (pl v2 v0) v1 v3 v2 (pl v0 v3) v1 rfl (nsc e2) (Nat.min_le_right c (b - a)))) (fun e3=>(F3 (c4 a b (b - a) (min c (b - a))) (pl v0 k1) v1 v2 k0 v3 v2 (pl v0 v3) v1 rfl A (nsd e3) (Nat.min_le_right c (b - a))))
theorem qFA {a b c f:Nat} (A:a < b) (B:c+a < f):c+a+1≤c+min b (f - c):=(Nat.le_total b (f - c)).elim (fun e9=>(F2 (c4 a b c (min b (f - c))) (pl v0 k1) v1 v1 v3 (pl (pl v2 v0) k1) (pl v2 v3) rfl A (nml e9))) (fun e10=>(F3 (c5 a c f (f - c) (min b (f - c))) (pl (pl v1 v0) k1) v2 v3 v4 v2 (pl v3 v1) (pl (pl v1 v0) k1) (pl v1 v4) rfl B (nmr e10) (nsb f c)))
theorem qEI {a b:Nat} (A:¬ a≥b):a+(b - a) / 2 < b:=(Nat.le_total a b).elim (fun e2=>(Nat.le_of_not_lt fun e4=>nf (F4 (c5 a b (b - a) ((b - a) % 2) ((b - a) / 2)) (pl v0 k1) v1 (pl v2 v0) v1 (pl v3 (.mulL 2 v4)) v2 (.mulL 2 (pl v1 k1)) (.mulL 2 (pl (pl v0 v4) k1)) k1 k0 rfl (Nat.lt_of_not_le A) (nsc e2) (nmo 2 (b - a)) (Nat.mul_le_mul_left 2 e4)))) (fun e3=>(F3 (c5 a b (b - a) ((b - a) % 2) ((b - a) / 2)) (pl v0 k1) v1 v2 k0 (pl v3 (.mulL 2 v4)) v2 (pl (pl v0 v4) k1) v1 rfl (Nat.lt_of_not_le A) (nsd e3) (nmo 2 (b - a))))
theorem qHi {a b c:Nat} (A:a≤b):a+0≤c+b:=F1 (c3 a b c) v0 v1 (pl v0 k0) (pl v2 v1) rfl A
theorem qE2 :(0:Nat)+(1:Nat)≤(0:Nat)+(1:Nat):=nval (.leaf 0) (a:=(pl k0 k1)) (b:=(pl k0 k1)) rfl
theorem qCk {a:Nat} (A:¬ 1=a) (B:0 < a):1 < a:=(Nat.lt_or_gt_of_ne A).elim (fun e2=>(F1 (c1 a) (pl k1 k1) v0 (pl k1 k1) v0 rfl e2)) (fun e3=>(F2 (c1 a) (.mulL 2 (pl k0 k1)) (.mulL 2 v0) (pl v0 k1) k1 (pl k1 k1) v0 rfl (Nat.mul_le_mul_left 2 B) e3))
theorem qGO {a:Nat} (A:¬ 0+1=a) (B:0 < a):0+1 < a:=(Nat.lt_or_gt_of_ne A).elim (fun e2=>(F1 (c1 a) (pl (pl k0 k1) k1) v0 (pl (pl k0 k1) k1) v0 rfl e2)) (fun e3=>(F2 (c1 a) (.mulL 2 (pl k0 k1)) (.mulL 2 v0) (pl v0 k1) (pl k0 k1) (pl (pl k0 k1) k1) v0 rfl (Nat.mul_le_mul_left 2 B) e3))
theorem qAZ :(0:Nat)≤(0:Nat):=nval (.leaf 0) (a:=k0) (b:=k0) rfl
theorem qBd {a:Nat} (A:¬ a > 0):a=0:=Nat.le_antisymm (F1 (c1 a) v0 k0 v0 k0 rfl (Nat.le_of_not_lt A)) (nval (c1 a) (a:=k0) (b:=v0) rfl)
theorem qGw {a b c f:Nat} (A:a≤b+c):a≤b+f+c:=F1 (c4 a b c f) v0 (pl v1 v2) v0 (pl (pl v1 v3) v2) rfl A
theorem qDj {a b c:Nat} (A:a+1 < b) (B:c≤b - a) (C:¬ a+c+1=b) (D:¬ a+c=b):a+c+1 < b:=(Nat.lt_or_gt_of_ne C).elim (fun e2=>(F1 (c3 a b c) (pl (pl (pl v0 v2) k1) k1) v1 (pl (pl (pl v0 v2) k1) k1) v1 rfl e2)) (fun e3=>((Nat.lt_or_gt_of_ne D).elim (fun e5=>(F2 (c3 a b c) (pl v1 k1) (pl (pl v0 v2) k1) (.mulL 2 (pl (pl v0 v2) k1)) (.mulL 2 v1) (pl (pl (pl v0 v2) k1) k1) v1 rfl e3 (Nat.mul_le_mul_left 2 e5))) (fun e6=>((Nat.le_total a b).elim (fun e8=>(F3 (c4 a b c (b - a)) (.mulL 3 v2) (.mulL 3 v3) (.mulL 2 (pl v1 k1)) (.mulL 2 (pl v0 v2)) (.mulL 3 (pl v3 v0)) (.mulL 3 v1) (pl (pl (pl v0 v2) k1) k1) v1 rfl (Nat.mul_le_mul_left 3 B) (Nat.mul_le_mul_left 2 e6) (Nat.mul_le_mul_left 3 (nsc e8)))) (fun e9=>(F3 (c4 a b c (b - a)) (pl (pl v0 k1) k1) v1 v2 v3 v3 k0 (pl (pl (pl v0 v2) k1) k1) v1 rfl A B (nsd e9)))))))
theorem qDc {a b c:Nat} (A:a+b≤c):a+(c - a)=c:=Nat.le_antisymm ((Nat.le_total a c).elim (fun e2=>(F1 (c3 a c (c - a)) (pl v2 v0) v1 (pl v0 v2) v1 rfl (nsc e2))) (fun e3=>(F2 (c4 a b c (c - a)) (pl v0 v1) v2 v3 k0 (pl v0 v3) v2 rfl A (nsd e3)))) (F1 (c3 a c (c - a)) v1 (pl v2 v0) v1 (pl v0 v2) rfl (nsb c a))
theorem qGq {a b c:Nat} (A:a+1 < b) (B:c < b):c - a < b - a:=(Nat.le_total a c).elim (fun e2=>(F3 (c5 a b c (c - a) (b - a)) (pl v2 k1) v1 (pl v3 v0) v2 v1 (pl v4 v0) (pl v3 k1) v4 rfl B (nsc e2) (nsb b a))) (fun e3=>(F3 (c4 a b (c - a) (b - a)) (pl (pl v0 k1) k1) v1 v2 k0 v1 (pl v3 v0) (pl v2 k1) v3 rfl A (nsd e3) (nsb b a)))
theorem qDR {a b c:Nat} (A:a+b≤c):b≤c - a:=F2 (c4 a b c (c - a)) (pl v0 v1) v2 v2 (pl v3 v0) v1 v3 rfl A (nsb c a)
theorem qEa {a b:Nat} (A:a≤b):a+(b - a)=b:=Nat.le_antisymm ((Nat.le_total a b).elim (fun e2=>(F1 (c3 a b (b - a)) (pl v2 v0) v1 (pl v0 v2) v1 rfl (nsc e2))) (fun e3=>(F2 (c3 a b (b - a)) v0 v1 v2 k0 (pl v0 v2) v1 rfl A (nsd e3)))) (F1 (c3 a b (b - a)) v1 (pl v2 v0) v1 (pl v0 v2) rfl (nsb b a))
theorem qAl {a b c:Nat} (A:a≤b) (B:b < a+c):b - a < c:=(Nat.le_total a b).elim (fun e2=>(F2 (c4 a b c (b - a)) (pl v1 k1) (pl v0 v2) (pl v3 v0) v1 (pl v3 k1) v2 rfl B (nsc e2))) (fun e3=>(F3 (c4 a b c (b - a)) v0 v1 (pl v1 k1) (pl v0 v2) v3 k0 (pl v3 k1) v2 rfl A B (nsd e3)))
theorem qEC {a b:Nat} (A:a+1 < b):0 < b - a:=F2 (c3 a b (b - a)) (pl (pl v0 k1) k1) v1 v1 (pl v2 v0) (pl k0 k1) v2 rfl A (nsb b a)
theorem qBQ {a b:Nat} (A:a+1 < b):a+(b - a)≤b:=(Nat.le_total a b).elim (fun e2=>(F1 (c3 a b (b - a)) (pl v2 v0) v1 (pl v0 v2) v1 rfl (nsc e2))) (fun e3=>(F2 (c3 a b (b - a)) (pl (pl v0 k1) k1) v1 v2 k0 (pl v0 v2) v1 rfl A (nsd e3)))
theorem qG4 {a b c:Nat} (A:a≤b+c):a≤b+(c+1):=F1 (c3 a b c) v0 (pl v1 v2) v0 (pl v1 (pl v2 k1)) rfl A
theorem qBa {a b:Nat} (A:a < b) (B:¬ a+1=b):a+1 < b:=(Nat.lt_or_gt_of_ne B).elim (fun e2=>(F1 (c2 a b) (pl (pl v0 k1) k1) v1 (pl (pl v0 k1) k1) v1 rfl e2)) (fun e3=>(F2 (c2 a b) (.mulL 2 (pl v0 k1)) (.mulL 2 v1) (pl v1 k1) (pl v0 k1) (pl (pl v0 k1) k1) v1 rfl (Nat.mul_le_mul_left 2 A) e3))
theorem qE0 {a b c f:Nat} (A:a≤b+c):a≤b+(c+1+f):=F1 (c4 a b c f) v0 (pl v1 v2) v0 (pl v1 (pl (pl v2 k1) v3)) rfl A
theorem qEs {a b c:Nat} (A:a < b) (B:c≤b - (a+1)) (C:¬ a+1+c=b):a+1+c < b:=(Nat.lt_or_gt_of_ne C).elim (fun e2=>(F1 (c3 a b c) (pl (pl (pl v0 k1) v2) k1) v1 (pl (pl (pl v0 k1) v2) k1) v1 rfl e2)) (fun e3=>((Nat.le_total (a+1) b).elim (fun e5=>(F3 (c4 a b c (b - (a+1))) (.mulL 2 v2) (.mulL 2 v3) (pl v1 k1) (pl (pl v0 k1) v2) (.mulL 2 (pl v3 (pl v0 k1))) (.mulL 2 v1) (pl (pl (pl v0 k1) v2) k1) v1 rfl (Nat.mul_le_mul_left 2 B) e3 (Nat.mul_le_mul_left 2 (nsc e5)))) (fun e6=>(nf (F4 (c4 a b c (b - (a+1))) (pl v0 k1) v1 v2 v3 (pl v1 k1) (pl (pl v0 k1) v2) v3 k0 k1 k0 rfl A B e3 (nsd e6))))))
theorem qCa {a b c:Nat} (A:a+1+b≤c):a+1+(c - (a+1))=c:=Nat.le_antisymm ((Nat.le_total (a+1) c).elim (fun e2=>(F1 (c3 a c (c - (a+1))) (pl v2 (pl v0 k1)) v1 (pl (pl v0 k1) v2) v1 rfl (nsc e2))) (fun e3=>(F2 (c4 a b c (c - (a+1))) (pl (pl v0 k1) v1) v2 v3 k0 (pl (pl v0 k1) v3) v2 rfl A (nsd e3)))) (F1 (c3 a c (c - (a+1))) v1 (pl v2 (pl v0 k1)) v1 (pl (pl v0 k1) v2) rfl (nsb c (a+1)))
theorem qG5 {a b c:Nat} (A:a < b) (B:¬ a+1=b) (C:c < b):c - (a+1) < b - (a+1):=(Nat.lt_or_gt_of_ne B).elim (fun e2=>((Nat.le_total (a+1) c).elim (fun e5=>(F3 (c5 a b c (c - (a+1)) (b - (a+1))) (pl v2 k1) v1 (pl v3 (pl v0 k1)) v2 v1 (pl v4 (pl v0 k1)) (pl v3 k1) v4 rfl C (nsc e5) (nsb b (a+1)))) (fun e6=>(F3 (c4 a b (c - (a+1)) (b - (a+1))) (pl (pl v0 k1) k1) v1 v2 k0 v1 (pl v3 (pl v0 k1)) (pl v2 k1) v3 rfl e2 (nsd e6) (nsb b (a+1)))))) (fun e3=>(nf (F2 (c2 a b) (pl v0 k1) v1 (pl v1 k1) (pl v0 k1) k1 k0 rfl A e3)))
theorem qFd {a b c:Nat} (A:a+1+b≤c):b≤c - (a+1):=F2 (c4 a b c (c - (a+1))) (pl (pl v0 k1) v1) v2 v2 (pl v3 (pl v0 k1)) v1 v3 rfl A (nsb c (a+1))
theorem qHn {a b:Nat} (A:a+1≤b):a+1+(b - (a+1))=b:=Nat.le_antisymm ((Nat.le_total (a+1) b).elim (fun e2=>(F1 (c3 a b (b - (a+1))) (pl v2 (pl v0 k1)) v1 (pl (pl v0 k1) v2) v1 rfl (nsc e2))) (fun e3=>(F2 (c3 a b (b - (a+1))) (pl v0 k1) v1 v2 k0 (pl (pl v0 k1) v2) v1 rfl A (nsd e3)))) (F1 (c3 a b (b - (a+1))) v1 (pl v2 (pl v0 k1)) v1 (pl (pl v0 k1) v2) rfl (nsb b (a+1)))
theorem qGQ {a b c:Nat} (A:a+1≤b) (B:b < a+1+c):b - (a+1) < c:=(Nat.le_total (a+1) b).elim (fun e2=>(F2 (c4 a b c (b - (a+1))) (pl v1 k1) (pl (pl v0 k1) v2) (pl v3 (pl v0 k1)) v1 (pl v3 k1) v2 rfl B (nsc e2))) (fun e3=>(F3 (c4 a b c (b - (a+1))) (pl v0 k1) v1 (pl v1 k1) (pl (pl v0 k1) v2) v3 k0 (pl v3 k1) v2 rfl A B (nsd e3)))
theorem qCK {a b:Nat} (A:a < b) (B:¬ a+1=b):0 < b - (a+1):=(Nat.lt_or_gt_of_ne B).elim (fun e2=>(F2 (c3 a b (b - (a+1))) (pl (pl v0 k1) k1) v1 v1 (pl v2 (pl v0 k1)) (pl k0 k1) v2 rfl e2 (nsb b (a+1)))) (fun e3=>(F2 (c3 a b (b - (a+1))) (pl v0 k1) v1 (pl v1 k1) (pl v0 k1) (pl k0 k1) v2 rfl A e3))
theorem qBD {a b:Nat} (A:a < b):a+1+(b - (a+1))≤b:=(Nat.le_total (a+1) b).elim (fun e2=>(F1 (c3 a b (b - (a+1))) (pl v2 (pl v0 k1)) v1 (pl (pl v0 k1) v2) v1 rfl (nsc e2))) (fun e3=>(F2 (c3 a b (b - (a+1))) (pl v0 k1) v1 v2 k0 (pl (pl v0 k1) v2) v1 rfl A (nsd e3)))
theorem qAM {a b:Nat} (A:a+1 < b):a < b:=F1 (c2 a b) (pl (pl v0 k1) k1) v1 (pl v0 k1) v1 rfl A
theorem qBr {a b c:Nat} (A:a≤b+c):a≤b+1+c:=F1 (c3 a b c) v0 (pl v1 v2) v0 (pl (pl v1 k1) v2) rfl A
theorem qBy {a b:Nat} (A:a+1 < b) (B:¬ a+1+1=b):a+1+1 < b:=(Nat.lt_or_gt_of_ne B).elim (fun e2=>(F1 (c2 a b) (pl (pl (pl v0 k1) k1) k1) v1 (pl (pl (pl v0 k1) k1) k1) v1 rfl e2)) (fun e3=>(F2 (c2 a b) (.mulL 2 (pl (pl v0 k1) k1)) (.mulL 2 v1) (pl v1 k1) (pl (pl v0 k1) k1) (pl (pl (pl v0 k1) k1) k1) v1 rfl (Nat.mul_le_mul_left 2 A) e3))
theorem qEg {a b c:Nat} (A:a≤b) (B:c < a):c < b:=F2 (c3 a b c) v0 v1 (pl v2 k1) v0 (pl v2 k1) v1 rfl A B
theorem qBW {a b c:Nat} (A:a≤b+c):a+1≤b+1+c:=F1 (c3 a b c) v0 (pl v1 v2) (pl v0 k1) (pl (pl v1 k1) v2) rfl A
theorem qBb {a b c:Nat} (A:a≤b+c):a+1≤b+(c+1):=F1 (c3 a b c) v0 (pl v1 v2) (pl v0 k1) (pl v1 (pl v2 k1)) rfl A
theorem qCw {a b c:Nat} (A:a+1=b) (B:a≤c) (C:c < b):c=b - 1:=Nat.le_antisymm (F2 (c3 b c (b - 1)) (pl v1 k1) v0 v0 (pl v2 k1) v1 v2 rfl C (nsb b 1)) ((Nat.le_total 1 b).elim (fun e2=>(F3 (c4 a b c (b - 1)) v1 (pl v0 k1) v0 v2 (pl v3 k1) v1 v3 v2 rfl (Nat.le_of_eq A.symm) B (nsc e2))) (fun e3=>(F1 (c2 c (b - 1)) v1 k0 v1 v0 rfl (nsd e3))))
theorem qD4 {a b c f g:Nat} (A:a < b+c) (B:f+g≤b+c - a - 1):f+g+(a+1)≤b+c:=(Nat.le_total 1 (b+c - a)).elim (fun e9=>((Nat.le_total a (b+c)).elim (fun e12=>(F3 (c7 a b c f g (b+c - a - 1) (b+c - a)) (pl v3 v4) v5 (pl v5 k1) v6 (pl v6 v0) (pl v1 v2) (pl (pl v3 v4) (pl v0 k1)) (pl v1 v2) rfl B (nsc e9) (nsc e12))) (fun e13=>(F4 (c7 a b c f g (b+c - a - 1) (b+c - a)) (pl v0 k1) (pl v1 v2) (pl v3 v4) v5 (pl v5 k1) v6 v6 k0 (pl (pl v3 v4) (pl v0 k1)) (pl v1 v2) rfl A B (nsc e9) (nsd e13))))) (fun e10=>(F3 (c6 a b c f g (b+c - a - 1)) (pl v0 k1) (pl v1 v2) (pl v3 v4) v5 v5 k0 (pl (pl v3 v4) (pl v0 k1)) (pl v1 v2) rfl A B (nsd e10)))
theorem qGf {a b c f g:Nat} (A:a+b+c≤f+g):a+b≤f+g - c - 1+1:=F3 (c7 a b c f g (f+g - c) (f+g - c - 1)) (pl (pl v0 v1) v2) (pl v3 v4) (pl v3 v4) (pl v5 v2) v5 (pl v6 k1) (pl v0 v1) (pl v6 k1) rfl A (nsb (f+g) c) (nsb (f+g - c) 1)
theorem qHF {a b:Nat} :a - 1+b+0≤a+b:=F1 (c3 a (a - 1) b) v1 v0 (pl (pl v1 v2) k0) (pl v0 v2) rfl (Nat.sub_le a 1)
theorem qD2 {a:Nat} :a - 1≤a:=F1 (c2 a (a - 1)) v1 v0 v1 v0 rfl (Nat.sub_le a 1)
theorem qB0 {a:Nat} (A:0 < a) (B:¬ a=1):1 < a:=(Nat.lt_or_gt_of_ne B).elim (fun e2=>(F2 (c1 a) (.mulL 2 (pl k0 k1)) (.mulL 2 v0) (pl v0 k1) k1 (pl k1 k1) v0 rfl (Nat.mul_le_mul_left 2 A) e2)) (fun e3=>(F1 (c1 a) (pl k1 k1) v0 (pl k1 k1) v0 rfl e3))
theorem qCy {a:Nat} (A:¬ a - 1=0):0 < a - 1:=(Nat.lt_or_gt_of_ne A).elim (fun e2=>(F1 (c1 (a - 1)) (pl v0 k1) k0 (pl k0 k1) v0 rfl e2)) (fun e3=>(F1 (c1 (a - 1)) (pl k0 k1) v0 (pl k0 k1) v0 rfl e3))
theorem qCI {a:Nat} :a≤a - 1+1:=F1 (c2 a (a - 1)) v0 (pl v1 k1) v0 (pl v1 k1) rfl (nsb a 1)
theorem qBh {a:Nat} (A:0 < a):a - 1 < a:=(Nat.le_total 1 a).elim (fun e2=>(F1 (c2 a (a - 1)) (pl v1 k1) v0 (pl v1 k1) v0 rfl (nsc e2))) (fun e3=>(F2 (c2 a (a - 1)) (pl k0 k1) v0 v1 k0 (pl v1 k1) v0 rfl A (nsd e3)))
theorem qGD {a b c f g i:Nat} (A:a < b+c) (B:f+g≤min i (b+c - a - 1)):f+g+(a+1)≤b+c:=(Nat.le_total a (b+c)).elim (fun e2=>((Nat.le_total 1 (b+c - a)).elim (fun e7=>(F4 (c8 a b c f g (min i (b+c - a - 1)) (b+c - a) (b+c - a - 1)) (pl v3 v4) v5 (pl v6 v0) (pl v1 v2) (pl v7 k1) v6 v5 v7 (pl (pl v3 v4) (pl v0 k1)) (pl v1 v2) rfl B (nsc e2) (nsc e7) (Nat.min_le_right i (b+c - a - 1)))) (fun e8=>(F4 (c7 a b c f g (min i (b+c - a - 1)) (b+c - a - 1)) (pl v0 k1) (pl v1 v2) (pl v3 v4) v5 v6 k0 v5 v6 (pl (pl v3 v4) (pl v0 k1)) (pl v1 v2) rfl A B (nsd e8) (Nat.min_le_right i (b+c - a - 1)))))) (fun e3=>(nf (F2 (c3 a b c) (pl v0 k1) (pl v1 v2) (pl v1 v2) v0 k1 k0 rfl A e3)))
theorem qDQ {a b c f g i:Nat} (A:a+b≤min c (f+g - i - 1)):a+b≤c+1:=F2 (c4 a b (min c (f+g - i - 1)) c) (pl v0 v1) v2 v2 v3 (pl v0 v1) (pl v3 k1) rfl A (Nat.min_le_left c (f+g - i - 1))
theorem qFD {a b c f g i:Nat} (A:a+b≤c+1) (B:a+b+f≤g+i):a+b≤min c (g+i - f - 1)+1:=(Nat.le_total c (g+i - f - 1)).elim (fun e34=>(F2 (c4 a b c (min c (g+i - f - 1))) (pl v0 v1) (pl v2 k1) v2 v3 (pl v0 v1) (pl v3 k1) rfl A (nml e34))) (fun e35=>(F4 (c8 a b f g i (g+i - f - 1) (min c (g+i - f - 1)) (g+i - f)) (pl (pl v0 v1) v2) (pl v3 v4) v5 v6 (pl v3 v4) (pl v7 v2) v7 (pl v5 k1) (pl v0 v1) (pl v6 k1) rfl B (nmr e35) (nsb (g+i) f) (nsb (g+i - f) 1)))
theorem qEm {a b c f:Nat} (A:a≤b) (B:c≤f):a+c+0≤b+f:=F2 (c4 a b c f) v0 v1 v2 v3 (pl (pl v0 v2) k0) (pl v1 v3) rfl A B
theorem qBz {a b:Nat} (A:a≤b) (B:¬ b - a > 0):a=b:=Nat.le_antisymm (F1 (c2 a b) v0 v1 v0 v1 rfl A) (F2 (c3 a b (b - a)) v2 k0 v1 (pl v2 v0) v1 v0 rfl (Nat.le_of_not_lt B) (nsb b a))
theorem qGk {a b c f:Nat} (A:a+b≤c) (B:f≤a):f+b≤c:=F2 (c4 a b c f) (pl v0 v1) v2 v3 v0 (pl v3 v1) v2 rfl A B
theorem qFU {a b c:Nat} (A:a≤b) (B:c≤a):c≤b:=F2 (c3 a b c) v0 v1 v2 v0 v2 v1 rfl A B
theorem qAw {a:Nat} (A:¬ a=0):0 < a:=(Nat.lt_or_gt_of_ne A).elim (fun e2=>(F1 (c1 a) (pl v0 k1) k0 (pl k0 k1) v0 rfl e2)) (fun e3=>(F1 (c1 a) (pl k0 k1) v0 (pl k0 k1) v0 rfl e3))
theorem qDb {a b:Nat} (A:a < b):a≤b - 1:=F2 (c3 a b (b - 1)) (pl v0 k1) v1 v1 (pl v2 k1) v0 v2 rfl A (nsb b 1)
theorem qA3 {a b c:Nat} (A:a≤b) (B:c < a+(b - a)):c < b:=(Nat.le_total a b).elim (fun e2=>(F2 (c4 a b c (b - a)) (pl v2 k1) (pl v0 v3) (pl v3 v0) v1 (pl v2 k1) v1 rfl B (nsc e2))) (fun e3=>(F3 (c4 a b c (b - a)) v0 v1 (pl v2 k1) (pl v0 v3) v3 k0 (pl v2 k1) v1 rfl A B (nsd e3)))
theorem qAr {a b:Nat} (A:a≤b):0+a≤b:=F1 (c2 a b) v0 v1 (pl k0 v0) v1 rfl A
theorem qFq {a b:Nat} (A:1 < a) (B:a≤b):a - 1 < b:=(Nat.le_total 1 a).elim (fun e2=>(F2 (c3 a b (a - 1)) v0 v1 (pl v2 k1) v0 (pl v2 k1) v1 rfl B (nsc e2))) (fun e3=>(F3 (c3 a b (a - 1)) (pl k1 k1) v0 v0 v1 v2 k0 (pl v2 k1) v1 rfl A B (nsd e3)))
theorem qB4 {a b c:Nat} (A:a+(b+1)≤c):a+b≤c:=F1 (c3 a b c) (pl v0 (pl v1 k1)) v2 (pl v0 v1) v2 rfl A
theorem qCi {a b:Nat} (A:a+1≤b):a≤b:=F1 (c2 a b) (pl v0 k1) v1 v0 v1 rfl A
theorem qBG {a:Nat} (A:1 < a+1) (B:¬ a=1):1 < a:=(Nat.lt_or_gt_of_ne B).elim (fun e2=>(F2 (c1 a) (.mulL 2 (pl k1 k1)) (.mulL 2 (pl v0 k1)) (pl v0 k1) k1 (pl k1 k1) v0 rfl (Nat.mul_le_mul_left 2 A) e2)) (fun e3=>(F1 (c1 a) (pl k1 k1) v0 (pl k1 k1) v0 rfl e3))
theorem qCU {a b c f:Nat} (A:a+(b+1)≤c) (B:f≤b):a+f≤c:=F2 (c4 a b c f) (pl v0 (pl v1 k1)) v2 v3 v1 (pl v0 v3) v2 rfl A B
theorem qDS {a b c:Nat} (A:a+1≤b) (B:c≤a):c≤b:=F2 (c3 a b c) (pl v0 k1) v1 v2 v0 v2 v1 rfl A B
theorem qFN {a:Nat} (A:¬ a=1) (B:¬ a=0):1 < a:=(Nat.lt_or_gt_of_ne A).elim (fun e2=>((Nat.lt_or_gt_of_ne B).elim (fun e5=>(F1 (c1 a) (.mulL 2 (pl v0 k1)) (.mulL 2 k0) (pl k1 k1) v0 rfl (Nat.mul_le_mul_left 2 e5))) (fun e6=>(F2 (c1 a) (pl v0 k1) k1 (.mulL 2 (pl k0 k1)) (.mulL 2 v0) (pl k1 k1) v0 rfl e2 (Nat.mul_le_mul_left 2 e6))))) (fun e3=>(F1 (c1 a) (pl k1 k1) v0 (pl k1 k1) v0 rfl e3))
theorem qHC {a:Nat} (A:1 < a+1):a - 1 < a:=(Nat.le_total 1 a).elim (fun e2=>(F1 (c2 a (a - 1)) (pl v1 k1) v0 (pl v1 k1) v0 rfl (nsc e2))) (fun e3=>(F2 (c2 a (a - 1)) (pl k1 k1) (pl v0 k1) v1 k0 (pl v1 k1) v0 rfl A (nsd e3)))
theorem qA0 {a b:Nat} (A:a+1≤b):0+a≤b:=F1 (c2 a b) (pl v0 k1) v1 (pl k0 v0) v1 rfl A
theorem qBY {a b c:Nat} (A:a+1+b≤c):a+b≤c:=F1 (c3 a b c) (pl (pl v0 k1) v1) v2 (pl v0 v1) v2 rfl A
theorem qAu {a b c:Nat} (A:a+1+(b+1)≤c+1):a+1+b≤c:=F1 (c3 a b c) (pl (pl v0 k1) (pl v1 k1)) (pl v2 k1) (pl (pl v0 k1) v1) v2 rfl A
theorem qA9 {a b c:Nat} (A:a+1+(b+1)≤c+1):a+(b+1)≤c:=F1 (c3 a b c) (pl (pl v0 k1) (pl v1 k1)) (pl v2 k1) (pl v0 (pl v1 k1)) v2 rfl A
theorem qGV {a b:Nat} (A:a=1) (B:b < a):b=0:=Nat.le_antisymm (F2 (c2 a b) v0 k1 (pl v1 k1) v0 v1 k0 rfl (Nat.le_of_eq A) B) (nval (c1 b) (a:=k0) (b:=v0) rfl)
theorem qHO {a b c f g:Nat} (A:a≤b) (B:c+(f+b)≤g):c+f+a≤g:=F2 (c5 a b c f g) v0 v1 (pl v2 (pl v3 v1)) v4 (pl (pl v2 v3) v0) v4 rfl A B
theorem qCr {a b c:Nat} (A:a < b):a < b+c:=F1 (c3 a b c) (pl v0 k1) v1 (pl v0 k1) (pl v1 v2) rfl A
theorem qAJ {a b c f:Nat} (A:a < b+(c+f)):a < b+c+f:=F1 (c4 a b c f) (pl v0 k1) (pl v1 (pl v2 v3)) (pl v0 k1) (pl (pl v1 v2) v3) rfl A
theorem qBE {a b c f:Nat} (A:¬ a < b+c+f):b+c≤a:=F1 (c4 b c f a) (pl (pl v0 v1) v2) v3 (pl v0 v1) v3 rfl (Nat.le_of_not_lt A)
theorem qAO {a b c f:Nat} (A:¬ a < b+c+f):b+c+f≤a:=F1 (c4 b c f a) (pl (pl v0 v1) v2) v3 (pl (pl v0 v1) v2) v3 rfl (Nat.le_of_not_lt A)
theorem qAi {a b c f g:Nat} (A:¬ a - b=0) (B:c < f+a+g):c - (f+b) < a - b+g:=(Nat.lt_or_gt_of_ne A).elim (fun e2=>(nf (F1 (c1 (a - b)) (pl v0 k1) k0 k1 k0 rfl e2))) (fun e3=>((Nat.le_total (f+b) c).elim (fun e14=>(F3 (c7 c f a g (a - b) b (c - (f+b))) (pl v0 k1) (pl (pl v1 v2) v3) (pl v6 (pl v1 v5)) v0 v2 (pl v4 v5) (pl v6 k1) (pl v4 v3) rfl B (nsc e14) (nsb a b))) (fun e15=>(F2 (c3 g (a - b) (c - (f+b))) (pl k0 k1) v1 v2 k0 (pl v2 k1) (pl v1 v0) rfl e3 (nsd e15)))))
theorem qCM {a b c f g i:Nat} (A:¬ a - b=0) (B:c=a - b+f) (C:g < i+a+f):g - (i+b) < c:=(Nat.lt_or_gt_of_ne A).elim (fun e2=>(nf (F1 (c1 (a - b)) (pl v0 k1) k0 k1 k0 rfl e2))) (fun e3=>((Nat.le_total (i+b) g).elim (fun e14=>(F4 (c8 c (a - b) f g i a b (g - (i+b))) (pl v1 v2) v0 (pl v3 k1) (pl (pl v4 v5) v2) (pl v7 (pl v4 v6)) v3 v5 (pl v1 v6) (pl v7 k1) v0 rfl (Nat.le_of_eq B.symm) C (nsc e14) (nsb a b))) (fun e15=>(F3 (c4 c (a - b) f (g - (i+b))) (pl v1 v2) v0 (pl k0 k1) v1 v3 k0 (pl v3 k1) v0 rfl (Nat.le_of_eq B.symm) e3 (nsd e15)))))
theorem qGg {a b c f g i:Nat} (A:¬ a - b=0) (B:c≤f) (C:f < g+a+i):c - (g+b) < a - b+i:=(Nat.lt_or_gt_of_ne A).elim (fun e2=>(nf (F1 (c1 (a - b)) (pl v0 k1) k0 k1 k0 rfl e2))) (fun e3=>((Nat.le_total (g+b) c).elim (fun e14=>(F4 (c8 c f g a i (a - b) b (c - (g+b))) v0 v1 (pl v1 k1) (pl (pl v2 v3) v4) (pl v7 (pl v2 v6)) v0 v3 (pl v5 v6) (pl v7 k1) (pl v5 v4) rfl B C (nsc e14) (nsb a b))) (fun e15=>(F2 (c3 i (a - b) (c - (g+b))) (pl k0 k1) v1 v2 k0 (pl v2 k1) (pl v1 v0) rfl e3 (nsd e15)))))
theorem qAU {a b:Nat} :a+b≤a+b:=nval (c2 a b) (a:=(pl v0 v1)) (b:=(pl v0 v1)) rfl
theorem qCq {a b c f:Nat} (A:a≤b) (B:c < f+a):c < f+b:=F2 (c4 a b c f) v0 v1 (pl v2 k1) (pl v3 v0) (pl v2 k1) (pl v3 v1) rfl A B
theorem qG6 {a b c f g:Nat} (A:a+b+c≤f) (B:g < a+b+c):g≤f:=F2 (c5 a b c f g) (pl (pl v0 v1) v2) v3 (pl v4 k1) (pl (pl v0 v1) v2) v4 v3 rfl A B
theorem qA1 {a b c:Nat} (A:1≤a) (B:b≤a):c+b+(a - b) - 1 < c+a:=(Nat.le_total 1 (c+b+(a - b))).elim (fun e14=>((Nat.le_total b a).elim (fun e17=>(F2 (c5 a b c (a - b) (c+b+(a - b) - 1)) (pl v4 k1) (pl (pl v2 v1) v3) (pl v3 v1) v0 (pl v4 k1) (pl v2 v0) rfl (nsc e14) (nsc e17))) (fun e18=>(F3 (c5 a b c (a - b) (c+b+(a - b) - 1)) v1 v0 (pl v4 k1) (pl (pl v2 v1) v3) v3 k0 (pl v4 k1) (pl v2 v0) rfl B (nsc e14) (nsd e18))))) (fun e15=>(F2 (c3 a c (c+b+(a - b) - 1)) k1 v0 v2 k0 (pl v2 k1) (pl v1 v0) rfl A (nsd e15)))
theorem qFz {a b c f:Nat} (A:a < b+c+(f - c)):a≤b+c+(f - c) - 1:=F2 (c5 a b c (f - c) (b+c+(f - c) - 1)) (pl v0 k1) (pl (pl v1 v2) v3) (pl (pl v1 v2) v3) (pl v4 k1) v0 v4 rfl A (nsb (b+c+(f - c)) 1)
theorem qBs {a b c:Nat} (A:a+b≤c):a≤c:=F1 (c3 a b c) (pl v0 v1) v2 v0 v2 rfl A
theorem qDA {a b c f:Nat} (A:1≤a) (B:b < c+(f+a)):b - (c+f) < a:=(Nat.le_total (c+f) b).elim (fun e2=>(F2 (c5 a b c f (b - (c+f))) (pl v1 k1) (pl v2 (pl v3 v0)) (pl v4 (pl v2 v3)) v1 (pl v4 k1) v0 rfl B (nsc e2))) (fun e3=>(F2 (c2 a (b - (c+f))) k1 v0 v1 k0 (pl v1 k1) v0 rfl A (nsd e3)))
theorem qDk {a b c f:Nat} (A:a+b+c≤f):c≤f - (a+b):=F2 (c5 a b c f (f - (a+b))) (pl (pl v0 v1) v2) v3 v3 (pl v4 (pl v0 v1)) v2 v4 rfl A (nsb f (a+b))
theorem qFo {a b c f g:Nat} (A:a≤b) (B:c < f+g+a):c < f+g+b:=F2 (c5 a b c f g) v0 v1 (pl v2 k1) (pl (pl v3 v4) v0) (pl v2 k1) (pl (pl v3 v4) v1) rfl A B
theorem qDy {a b c f:Nat} (A:a≤b) (B:c < f+a+(b - a)):c < f+b:=(Nat.le_total a b).elim (fun e2=>(F2 (c5 a b c f (b - a)) (pl v2 k1) (pl (pl v3 v0) v4) (pl v4 v0) v1 (pl v2 k1) (pl v3 v1) rfl B (nsc e2))) (fun e3=>(F3 (c5 a b c f (b - a)) v0 v1 (pl v2 k1) (pl (pl v3 v0) v4) v4 k0 (pl v2 k1) (pl v3 v1) rfl A B (nsd e3)))
theorem qHl {a b c f:Nat} (A:a < b+c) (B:b+c≤f):a≤f:=F2 (c4 a b c f) (pl v0 k1) (pl v1 v2) (pl v1 v2) v3 v0 v3 rfl A B
theorem qDB {a b c f g:Nat} (A:a=b - c+f) (B:g < b - c+f):g < a:=F2 (c4 a (b - c) f g) (pl v1 v2) v0 (pl v3 k1) (pl v1 v2) (pl v3 k1) v0 rfl (Nat.le_of_eq A.symm) B
theorem qHU {a b c f g:Nat} (A:a≤b) (B:c+b+f≤g):c+b+f+(g - (c+a+(b - a+f)))=g:=Nat.le_antisymm ((Nat.le_total (c+a+(b - a+f)) g).elim (fun e14=>(F2 (c7 a b c f g (b - a) (g - (c+a+(b - a+f)))) (pl v6 (pl (pl v2 v0) (pl v5 v3))) v4 v1 (pl v5 v0) (pl (pl (pl v2 v1) v3) v6) v4 rfl (nsc e14) (nsb b a))) (fun e15=>(F2 (c5 b c f g (g - (c+a+(b - a+f)))) (pl (pl v1 v0) v2) v3 v4 k0 (pl (pl (pl v1 v0) v2) v4) v3 rfl B (nsd e15)))) ((Nat.le_total a b).elim (fun e17=>(F2 (c7 a b c f g (b - a) (g - (c+a+(b - a+f)))) (pl v5 v0) v1 v4 (pl v6 (pl (pl v2 v0) (pl v5 v3))) v4 (pl (pl (pl v2 v1) v3) v6) rfl (nsc e17) (nsb g (c+a+(b - a+f))))) (fun e18=>(F3 (c7 a b c f g (b - a) (g - (c+a+(b - a+f)))) v0 v1 v5 k0 v4 (pl v6 (pl (pl v2 v0) (pl v5 v3))) v4 (pl (pl (pl v2 v1) v3) v6) rfl A (nsd e18) (nsb g (c+a+(b - a+f))))))
theorem qD7 {a b c f g:Nat} (A:a≤b) (B:c+b+f≤g):c+a+(b - a+f)≤g:=(Nat.le_total a b).elim (fun e2=>(F2 (c6 a b c f g (b - a)) (pl (pl v2 v1) v3) v4 (pl v5 v0) v1 (pl (pl v2 v0) (pl v5 v3)) v4 rfl B (nsc e2))) (fun e3=>(F3 (c6 a b c f g (b - a)) v0 v1 (pl (pl v2 v1) v3) v4 v5 k0 (pl (pl v2 v0) (pl v5 v3)) v4 rfl A B (nsd e3)))
theorem qDe {a b c:Nat} :a+b+c - (a+b)=c:=Nat.le_antisymm ((Nat.le_total (a+b) (a+b+c)).elim (fun e2=>(F1 (c4 a b c (a+b+c - (a+b))) (pl v3 (pl v0 v1)) (pl (pl v0 v1) v2) v3 v2 rfl (nsc e2))) (fun e3=>(F1 (c2 c (a+b+c - (a+b))) v1 k0 v1 v0 rfl (nsd e3)))) (F1 (c4 a b c (a+b+c - (a+b))) (pl (pl v0 v1) v2) (pl v3 (pl v0 v1)) v2 v3 rfl (nsb (a+b+c) (a+b)))
theorem qGY {a b c f g i:Nat} (A:a=b - c+f) (B:g < b - c+f):i+c+g - (i+c) < a:=(Nat.le_total (i+c) (i+c+g)).elim (fun e14=>(F3 (c7 a (b - c) f g i c (i+c+g - (i+c))) (pl v1 v2) v0 (pl v3 k1) (pl v1 v2) (pl v6 (pl v4 v5)) (pl (pl v4 v5) v3) (pl v6 k1) v0 rfl (Nat.le_of_eq A.symm) B (nsc e14))) (fun e15=>(F3 (c5 a (b - c) f g (i+c+g - (i+c))) (pl v1 v2) v0 (pl v3 k1) (pl v1 v2) v4 k0 (pl v4 k1) v0 rfl (Nat.le_of_eq A.symm) B (nsd e15)))
theorem qCA {a b c f:Nat} (A:a=b+c):a≤b+c+f:=F1 (c4 a b c f) v0 (pl v1 v2) v0 (pl (pl v1 v2) v3) rfl (Nat.le_of_eq A)
theorem qFn {a b c f:Nat} (A:a=b+c) (B:f < b+c):f < a:=F2 (c4 a b c f) (pl v1 v2) v0 (pl v3 k1) (pl v1 v2) (pl v3 k1) v0 rfl (Nat.le_of_eq A.symm) B
theorem qHD {a b c f g i:Nat} (A:a+b+c≤f) (B:g=f) (C:i≤b):min (a+i) g=a+i:=Nat.le_antisymm (F1 (c3 a i (min (a+i) g)) v2 (pl v0 v1) v2 (pl v0 v1) rfl (Nat.min_le_left (a+i) g)) ((Nat.le_total (a+i) g).elim (fun e2=>(F1 (c3 a i (min (a+i) g)) (pl v0 v1) v2 (pl v0 v1) v2 rfl (nml e2))) (fun e3=>(F4 (c7 a b c f g i (min (a+i) g)) (pl (pl v0 v1) v2) v3 v3 v4 v5 v1 v4 v6 (pl v0 v5) v6 rfl A (Nat.le_of_eq B.symm) C (nmr e3))))
theorem qGz {a b c:Nat} (A:a≤b):c+b=c+a+(b - a):=Nat.le_antisymm (F1 (c4 a b (b - a) c) v1 (pl v2 v0) (pl v3 v1) (pl (pl v3 v0) v2) rfl (nsb b a)) ((Nat.le_total a b).elim (fun e2=>(F1 (c4 a b (b - a) c) (pl v2 v0) v1 (pl (pl v3 v0) v2) (pl v3 v1) rfl (nsc e2))) (fun e3=>(F2 (c4 a b (b - a) c) v0 v1 v2 k0 (pl (pl v3 v0) v2) (pl v3 v1) rfl A (nsd e3))))
theorem qHW {a b c:Nat} (A:a≤b):c+a+(b - a)=c+b:=Nat.le_antisymm ((Nat.le_total a b).elim (fun e2=>(F1 (c4 a b (b - a) c) (pl v2 v0) v1 (pl (pl v3 v0) v2) (pl v3 v1) rfl (nsc e2))) (fun e3=>(F2 (c4 a b (b - a) c) v0 v1 v2 k0 (pl (pl v3 v0) v2) (pl v3 v1) rfl A (nsd e3)))) (F1 (c4 a b (b - a) c) v1 (pl v2 v0) (pl v3 v1) (pl (pl v3 v0) v2) rfl (nsb b a))
theorem qDW {a b c f:Nat} (A:a≤b):c+a+(b - a+f)=c+b+f:=Nat.le_antisymm ((Nat.le_total a b).elim (fun e2=>(F1 (c5 a b (b - a) c f) (pl v2 v0) v1 (pl (pl v3 v0) (pl v2 v4)) (pl (pl v3 v1) v4) rfl (nsc e2))) (fun e3=>(F2 (c5 a b (b - a) c f) v0 v1 v2 k0 (pl (pl v3 v0) (pl v2 v4)) (pl (pl v3 v1) v4) rfl A (nsd e3)))) (F1 (c5 a b (b - a) c f) v1 (pl v2 v0) (pl (pl v3 v1) v4) (pl (pl v3 v0) (pl v2 v4)) rfl (nsb b a))
theorem qEB {a b c f g i j:Nat} (A:a+b+c≤f) (B:g=f) (C:i≤b) (D:j≤c):a+i+(b - i+j)≤g:=(Nat.le_total i b).elim (fun e2=>(F4 (c8 a b c f g i j (b - i)) (pl (pl v0 v1) v2) v3 v3 v4 v6 v2 (pl v7 v5) v1 (pl (pl v0 v5) (pl v7 v6)) v4 rfl A (Nat.le_of_eq B.symm) D (nsc e2))) (fun e3=>(F4 (c8 a b c f g i j (b - i)) (pl (pl (pl v0 v1) v2) v3) (pl v3 v4) v5 v1 v6 v2 v7 k0 (pl (pl v0 v5) (pl v7 v6)) v4 rfl (Nat.add_le_add A (Nat.le_of_eq B.symm)) C D (nsd e3)))
theorem qE1 {a b c:Nat} (A:¬ a - b=0):c+b+(a - b - 1)=c+b+(a - b) - 1:=Nat.le_antisymm ((Nat.le_total 1 (a - b)).elim (fun e93=>(F2 (c5 (a - b) (a - b - 1) b c (c+b+(a - b) - 1)) (pl v1 k1) v0 (pl (pl v3 v2) v0) (pl v4 k1) (pl (pl v3 v2) v1) v4 rfl (nsc e93) (nsb (c+b+(a - b)) 1))) (fun e94=>((Nat.lt_or_gt_of_ne A).elim (fun e96=>(F3 (c5 (a - b) (a - b - 1) b c (c+b+(a - b) - 1)) v1 k0 (pl v0 k1) k0 (pl (pl v3 v2) v0) (pl v4 k1) (pl (pl v3 v2) v1) v4 rfl (nsd e94) e96 (nsb (c+b+(a - b)) 1))) (fun e97=>(F3 (c5 (a - b) (a - b - 1) b c (c+b+(a - b) - 1)) v1 k0 (pl k0 k1) v0 (pl (pl v3 v2) v0) (pl v4 k1) (pl (pl v3 v2) v1) v4 rfl (nsd e94) e97 (nsb (c+b+(a - b)) 1)))))) ((Nat.le_total 1 (c+b+(a - b))).elim (fun e259=>(F2 (c5 c b (a - b) (c+b+(a - b) - 1) (a - b - 1)) (pl v3 k1) (pl (pl v0 v1) v2) v2 (pl v4 k1) v3 (pl (pl v0 v1) v4) rfl (nsc e259) (nsb (a - b) 1))) (fun e260=>(F1 (c4 c b (c+b+(a - b) - 1) (a - b - 1)) v2 k0 v2 (pl (pl v0 v1) v3) rfl (nsd e260))))
theorem qCf {a b:Nat} (A:¬ a - b=0):a - b - 1 < a - b:=(Nat.le_total 1 (a - b)).elim (fun e41=>(F1 (c2 (a - b) (a - b - 1)) (pl v1 k1) v0 (pl v1 k1) v0 rfl (nsc e41))) (fun e42=>((Nat.lt_or_gt_of_ne A).elim (fun e44=>(F2 (c2 (a - b) (a - b - 1)) v1 k0 (pl v0 k1) k0 (pl v1 k1) v0 rfl (nsd e42) e44)) (fun e45=>(F2 (c2 (a - b) (a - b - 1)) v1 k0 (pl k0 k1) v0 (pl v1 k1) v0 rfl (nsd e42) e45))))
theorem qCV {a b:Nat} (A:¬ a - b=0):b < a:=(Nat.lt_or_gt_of_ne A).elim (fun e2=>(nf (F1 (c1 (a - b)) (pl v0 k1) k0 k1 k0 rfl e2))) (fun e3=>((Nat.le_total b a).elim (fun e6=>(F2 (c3 (a - b) b a) (pl k0 k1) v0 (pl v0 v1) v2 (pl v1 k1) v2 rfl e3 (nsc e6))) (fun e7=>(nf (F2 (c1 (a - b)) (pl k0 k1) v0 v0 k0 k1 k0 rfl e3 (nsd e7))))))
theorem qHa {a b:Nat} (A:¬ a - b=0):0 < a - b:=(Nat.lt_or_gt_of_ne A).elim (fun e2=>(F1 (c1 (a - b)) (pl v0 k1) k0 (pl k0 k1) v0 rfl e2)) (fun e3=>(F1 (c1 (a - b)) (pl k0 k1) v0 (pl k0 k1) v0 rfl e3))
theorem qCm {a b c f g:Nat} (A:a≤b) (B:c < a):f+g+c < f+g+b:=F2 (c5 a b c f g) v0 v1 (pl v2 k1) v0 (pl (pl (pl v3 v4) v2) k1) (pl (pl v3 v4) v1) rfl A B
theorem qBe {a b c f:Nat} (A:a≤b):c+f+a≤c+f+b:=F1 (c4 a b c f) v0 v1 (pl (pl v2 v3) v0) (pl (pl v2 v3) v1) rfl A
theorem qGn {a b c:Nat} :a+b≤a+b+c:=nval (c3 a b c) (a:=(pl v0 v1)) (b:=(pl (pl v0 v1) v2)) rfl
theorem qBF {a b c f:Nat} (A:a < b - c):f+c+a < f+b:=(Nat.le_total c b).elim (fun e2=>(F2 (c5 a (b - c) c b f) (pl v0 k1) v1 (pl v1 v2) v3 (pl (pl (pl v4 v2) v0) k1) (pl v4 v3) rfl A (nsc e2))) (fun e3=>(nf (F2 (c2 a (b - c)) (pl v0 k1) v1 v1 k0 k1 k0 rfl A (nsd e3))))
theorem qEb {a b c:Nat} :a≤a+b+c:=nval (c3 a b c) (a:=v0) (b:=(pl (pl v0 v1) v2)) rfl
theorem qHG {a b c f:Nat} (A:a≤b) (B:b < c - f):a < c - f:=F2 (c3 a b (c - f)) v0 v1 (pl v1 k1) v2 (pl v0 k1) v2 rfl A B
theorem qEy {a b:Nat} (A:¬ a=0) (B:b=a):0 < b:=(Nat.lt_or_gt_of_ne A).elim (fun e2=>(F1 (c2 b a) (pl v1 k1) k0 (pl k0 k1) v0 rfl e2)) (fun e3=>(F2 (c2 b a) v1 v0 (pl k0 k1) v1 (pl k0 k1) v0 rfl (Nat.le_of_eq B.symm) e3))
theorem qC4 {a b c:Nat} (A:¬ a - b=0) (B:c=a - b):0 < c:=(Nat.lt_or_gt_of_ne A).elim (fun e2=>(F1 (c2 c (a - b)) (pl v1 k1) k0 (pl k0 k1) v0 rfl e2)) (fun e3=>(F2 (c2 c (a - b)) v1 v0 (pl k0 k1) v1 (pl k0 k1) v0 rfl (Nat.le_of_eq B.symm) e3))
theorem qE3 {a b c f:Nat} (A:a < b):c+f+a < c+f+b:=F1 (c4 a b c f) (pl v0 k1) v1 (pl (pl (pl v2 v3) v0) k1) (pl (pl v2 v3) v1) rfl A
theorem qDX {a b c f g i:Nat} (A:a+b+c≤f) (B:g=f) (C:i≤c):a+b+i≤g:=F3 (c6 a b c f g i) (pl (pl v0 v1) v2) v3 v3 v4 v5 v2 (pl (pl v0 v1) v5) v4 rfl A (Nat.le_of_eq B.symm) C
theorem qA8 {a b c f g:Nat} (A:a+b+c≤f) (B:g=f):a+b≤g:=F2 (c5 a b c f g) (pl (pl v0 v1) v2) v3 v3 v4 (pl v0 v1) v4 rfl A (Nat.le_of_eq B.symm)
theorem qB9 {a b c f g i:Nat} (A:a+b+c≤f) (B:g=f) (C:i≤c):min (a+b+i) g - (a+b)=i:=Nat.le_antisymm ((Nat.le_total (a+b) (min (a+b+i) g)).elim (fun e14=>(F2 (c5 a b i (min (a+b+i) g) (min (a+b+i) g - (a+b))) (pl v4 (pl v0 v1)) v3 v3 (pl (pl v0 v1) v2) v4 v2 rfl (nsc e14) (Nat.min_le_left (a+b+i) g))) (fun e15=>(F1 (c2 i (min (a+b+i) g - (a+b))) v1 k0 v1 v0 rfl (nsd e15)))) ((Nat.le_total (a+b+i) g).elim (fun e17=>(F2 (c5 a b i (min (a+b+i) g) (min (a+b+i) g - (a+b))) (pl (pl v0 v1) v2) v3 v3 (pl v4 (pl v0 v1)) v2 v4 rfl (nml e17) (nsb (min (a+b+i) g) (a+b)))) (fun e18=>(Nat.le_of_not_lt fun e19=>nf (F4 (c8 a b c f g i (min (a+b+i) g) (min (a+b+i) g - (a+b))) (pl (pl (pl (pl v0 v1) v2) v3) v5) (pl (pl v3 v4) v2) v4 v6 v6 (pl v7 (pl v0 v1)) (pl v7 k1) v5 k1 k0 rfl (Nat.add_le_add (Nat.add_le_add A (Nat.le_of_eq B.symm)) C) (nmr e18) (nsb (min (a+b+i) g) (a+b)) e19))))
theorem qF9 {a b c f g i:Nat} (A:a+b+c≤f) (B:g=f):min (a+b) g - (a+i)=b - i:=Nat.le_antisymm ((Nat.le_total (a+i) (min (a+b) g)).elim (fun e46=>(F3 (c6 a b i (min (a+b) g) (min (a+b) g - (a+i)) (b - i)) (pl v4 (pl v0 v2)) v3 v3 (pl v0 v1) v1 (pl v5 v2) v4 v5 rfl (nsc e46) (Nat.min_le_left (a+b) g) (nsb b i))) (fun e47=>(F1 (c2 (min (a+b) g - (a+i)) (b - i)) v0 k0 v0 v1 rfl (nsd e47)))) ((Nat.le_total i b).elim (fun e93=>((Nat.le_total (a+b) g).elim (fun e98=>(F3 (c6 a b i (b - i) (min (a+b) g) (min (a+b) g - (a+i))) (pl v3 v2) v1 (pl v0 v1) v4 v4 (pl v5 (pl v0 v2)) v3 v5 rfl (nsc e93) (nml e98) (nsb (min (a+b) g) (a+i)))) (fun e99=>(Nat.le_of_not_lt fun e100=>nf (F4 (.branch 4 (.branch 2 (.branch 1 (.leaf a) (.leaf b)) (.branch 3 (.leaf c) (.leaf f))) (.branch 6 (.branch 5 (.leaf g) (.leaf i)) (.branch 7 (.leaf (b - i)) (.branch 8 (.leaf (min (a+b) g)) (.leaf (min (a+b) g - (a+i))))))) (pl (pl (pl (pl v0 v1) v2) v3) (pl v6 v5)) (pl (pl v3 v4) v1) v4 v7 v7 (pl v8 (pl v0 v5)) (pl v8 k1) v6 k1 k0 rfl (Nat.add_le_add (Nat.add_le_add A (Nat.le_of_eq B.symm)) (nsc e93)) (nmr e99) (nsb (min (a+b) g) (a+i)) e100))))) (fun e94=>(F1 (c2 (b - i) (min (a+b) g - (a+i))) v0 k0 v0 v1 rfl (nsd e94))))
theorem qDD {a b c f:Nat} (A:a < b+c):a≤b+f+(c - f) - 1:=F3 (c6 a b c (c - f) f (b+f+(c - f) - 1)) (pl v0 k1) (pl v1 v2) v2 (pl v3 v4) (pl (pl v1 v4) v3) (pl v5 k1) v0 v5 rfl A (nsb c f) (nsb (b+f+(c - f)) 1)
theorem qHI {a b c f:Nat} (A:1≤a) (B:b < c+f+a):b - (c+f) < a:=(Nat.le_total (c+f) b).elim (fun e2=>(F2 (c5 a b c f (b - (c+f))) (pl v1 k1) (pl (pl v2 v3) v0) (pl v4 (pl v2 v3)) v1 (pl v4 k1) v0 rfl B (nsc e2))) (fun e3=>(F2 (c2 a (b - (c+f))) k1 v0 v1 k0 (pl v1 k1) v0 rfl A (nsd e3)))
theorem qC0 {a b c f:Nat} (A:a=0):a≤b - (c+f):=F1 (c2 a (b - (c+f))) v0 k0 v0 v1 rfl (Nat.le_of_eq A)
theorem qDn {a:Nat} (A:1≤a):a - 1 < a:=(Nat.le_total 1 a).elim (fun e2=>(F1 (c2 a (a - 1)) (pl v1 k1) v0 (pl v1 k1) v0 rfl (nsc e2))) (fun e3=>(F2 (c2 a (a - 1)) k1 v0 v1 k0 (pl v1 k1) v0 rfl A (nsd e3)))
theorem qDr {a b c f g:Nat} (A:a+b+c≤f) (B:g=f):a+b+c≤g:=F2 (c5 a b c f g) (pl (pl v0 v1) v2) v3 v3 v4 (pl (pl v0 v1) v2) v4 rfl A (Nat.le_of_eq B.symm)
theorem qF4 {a b c f g i:Nat} (A:1≤a) (B:b+a+c≤f) (C:g=f) (D:i≤a):b+i+(a - i) - 1 < g:=(Nat.le_total 1 (b+i+(a - i))).elim (fun e15=>((Nat.le_total i a).elim (fun e18=>(F4 (c8 a b c f g i (a - i) (b+i+(a - i) - 1)) (pl (pl v1 v0) v2) v3 v3 v4 (pl v7 k1) (pl (pl v1 v5) v6) (pl v6 v5) v0 (pl v7 k1) v4 rfl B (Nat.le_of_eq C.symm) (nsc e15) (nsc e18))) (fun e19=>(Nat.le_of_not_lt fun e20=>nf (F4 (c8 a b c f g i (a - i) (b+i+(a - i) - 1)) (pl (pl (pl (pl v1 v0) v2) v3) v5) (pl (pl v3 v4) v0) (pl v7 k1) (pl (pl v1 v5) v6) v6 k0 (pl v4 k1) (pl v7 k1) k1 k0 rfl (Nat.add_le_add (Nat.add_le_add B (Nat.le_of_eq C.symm)) D) (nsc e15) (nsd e19) e20))))) (fun e16=>(F4 (c6 a b c f g (b+i+(a - i) - 1)) k1 v0 (pl (pl v1 v0) v2) v3 v3 v4 v5 k0 (pl v5 k1) v4 rfl A B (Nat.le_of_eq C.symm) (nsd e16)))
theorem qF1 {a b c f:Nat} (A:1≤a) (B:a - b=0) (C:c < f+a):c - f < b:=(Nat.le_total f c).elim (fun e14=>(F4 (c6 a (a - b) c f (c - f) b) v1 k0 (pl v2 k1) (pl v3 v0) (pl v4 v3) v2 v0 (pl v1 v5) (pl v4 k1) v5 rfl (Nat.le_of_eq B) C (nsc e14) (nsb a b))) (fun e15=>(F4 (c4 a (a - b) (c - f) b) k1 v0 v1 k0 v2 k0 v0 (pl v1 v3) (pl v2 k1) v3 rfl A (Nat.le_of_eq B) (nsd e15) (nsb a b)))
theorem qBA {a b c:Nat} (A:¬ a < b+c):b+c≤a:=F1 (c3 b c a) (pl v0 v1) v2 (pl v0 v1) v2 rfl (Nat.le_of_not_lt A)
theorem qHK {a b c f g:Nat} (A:1≤a) (B:b+c+a≤f) (C:g=f):b+c < g:=F3 (c5 a b c f g) k1 v0 (pl (pl v1 v2) v0) v3 v3 v4 (pl (pl v1 v2) k1) v4 rfl A B (Nat.le_of_eq C.symm)
theorem qFZ {a b c f:Nat} (A:a≤b) (B:c+f < a):f < min a b - c:=(Nat.le_total a b).elim (fun e2=>(F3 (c5 a c f (min a b) (min a b - c)) (pl (pl v1 v2) k1) v0 v0 v3 v3 (pl v4 v1) (pl v2 k1) v4 rfl B (nml e2) (nsb (min a b) c))) (fun e3=>(F4 (c6 a b c f (min a b) (min a b - c)) v0 v1 (pl (pl v2 v3) k1) v0 v1 v4 v4 (pl v5 v2) (pl v3 k1) v5 rfl A B (nmr e3) (nsb (min a b) c)))
theorem qDs {a b c:Nat} :a+(b+1)+c=a+b+(c+1):=Nat.le_antisymm (nval (c3 a b c) (a:=(pl (pl v0 (pl v1 k1)) v2)) (b:=(pl (pl v0 v1) (pl v2 k1))) rfl) (nval (c3 a b c) (a:=(pl (pl v0 v1) (pl v2 k1))) (b:=(pl (pl v0 (pl v1 k1)) v2)) rfl)
theorem qCZ {a b c:Nat} :a+b < a+(b+1)+c:=nval (c3 a b c) (a:=(pl (pl v0 v1) k1)) (b:=(pl (pl v0 (pl v1 k1)) v2)) rfl
theorem qEF {a b:Nat} :a+(b+1)=a+b+1:=Nat.le_antisymm (nval (c2 a b) (a:=(pl v0 (pl v1 k1))) (b:=(pl (pl v0 v1) k1)) rfl) (nval (c2 a b) (a:=(pl (pl v0 v1) k1)) (b:=(pl v0 (pl v1 k1))) rfl)
theorem qGA {a b c f:Nat} (A:a+b+(c+1)≤f):a+b < f:=F1 (c4 a b c f) (pl (pl v0 v1) (pl v2 k1)) v3 (pl (pl v0 v1) k1) v3 rfl A
theorem qGU {a b c f:Nat} (A:a+b+(c+1)≤f):a+(b+1)+c≤f:=F1 (c4 a b c f) (pl (pl v0 v1) (pl v2 k1)) v3 (pl (pl v0 (pl v1 k1)) v2) v3 rfl A
theorem qFy {a b c:Nat} (A:0+a=b) (B:c < b):c < 0+a:=F2 (c3 a b c) v1 (pl k0 v0) (pl v2 k1) v1 (pl v2 k1) (pl k0 v0) rfl (Nat.le_of_eq A.symm) B
theorem qEU {a b:Nat} (A:a≤1) (B:a=b+1):b=0:=Nat.le_antisymm (F2 (c2 a b) v0 k1 (pl v1 k1) v0 v1 k0 rfl A (Nat.le_of_eq B.symm)) (nval (c1 b) (a:=k0) (b:=v0) rfl)
theorem qDh {a b c f:Nat} (A:a+b≤c) (B:f+1=a):f+(b+1)≤c:=F2 (c4 a b c f) (pl v0 v1) v2 (pl v3 k1) v0 (pl v3 (pl v1 k1)) v2 rfl A (Nat.le_of_eq B)
theorem qFQ {a b:Nat} (A:a+max 0 b≤b):a≤1:=F2 (c3 a (max 0 b) b) (pl v0 v1) v2 v2 v1 v0 k1 rfl A (Nat.le_max_right 0 b)
theorem qHq {a b:Nat} (A:0+a≤b):a+0≤b:=F1 (c2 a b) (pl k0 v0) v1 (pl v0 k0) v1 rfl A
theorem qCP {a b c:Nat} (A:a≤b) (B:1≤c):a+1≤b+c:=F2 (c3 a b c) v0 v1 k1 v2 (pl v0 k1) (pl v1 v2) rfl A B
theorem qHA {a b:Nat} (A:a≤b) (B:max 0 b≤a):a=b:=Nat.le_antisymm (F1 (c2 a b) v0 v1 v0 v1 rfl A) (F2 (c3 a b (max 0 b)) v2 v0 v1 v2 v1 v0 rfl B (Nat.le_max_right 0 b))
theorem qA5 {a b c:Nat} (A:a≤b) (B:c≤b - a):a+c≤b:=(Nat.le_total a b).elim (fun e2=>(F2 (c4 a b c (b - a)) v2 v3 (pl v3 v0) v1 (pl v0 v2) v1 rfl B (nsc e2))) (fun e3=>(F3 (c4 a b c (b - a)) v0 v1 v2 v3 v3 k0 (pl v0 v2) v1 rfl A B (nsd e3)))
theorem qAb {a b c:Nat} (A:a≤b):a+min (b - a) c≤b:=(Nat.le_total a b).elim (fun e2=>(F2 (c4 a b (b - a) (min (b - a) c)) (pl v2 v0) v1 v3 v2 (pl v0 v3) v1 rfl (nsc e2) (Nat.min_le_left (b - a) c))) (fun e3=>(F3 (c4 a b (b - a) (min (b - a) c)) v0 v1 v2 k0 v3 v2 (pl v0 v3) v1 rfl A (nsd e3) (Nat.min_le_left (b - a) c)))
theorem qA7 {a b c f:Nat} (A:¬ a≥b) (B:c < f):1≤min (b - a) f:=(Nat.le_total (b - a) f).elim (fun e9=>(F3 (c4 a b (b - a) (min (b - a) f)) (pl v0 k1) v1 v2 v3 v1 (pl v2 v0) k1 v3 rfl (Nat.lt_of_not_le A) (nml e9) (nsb b a))) (fun e10=>(F2 (c3 c f (min (b - a) f)) (pl v0 k1) v1 v1 v2 k1 v2 rfl B (nmr e10)))
theorem qHE {a b c f:Nat} (A:a≤b - c) (B:a < f):a≤min (b - c) f:=(Nat.le_total (b - c) f).elim (fun e9=>(F2 (c3 a (b - c) (min (b - c) f)) v0 v1 v1 v2 v0 v2 rfl A (nml e9))) (fun e10=>(F2 (c3 a f (min (b - c) f)) (pl v0 k1) v1 v1 v2 v0 v2 rfl B (nmr e10)))
theorem qGF {a b:Nat} (A:¬ a≥b):1≤b - a:=F2 (c3 a b (b - a)) (pl v0 k1) v1 v1 (pl v2 v0) k1 v2 rfl (Nat.lt_of_not_le A) (nsb b a)
theorem qFT {a b:Nat} (A:a≤b):a+(b - a)≤b:=(Nat.le_total a b).elim (fun e2=>(F1 (c3 a b (b - a)) (pl v2 v0) v1 (pl v0 v2) v1 rfl (nsc e2))) (fun e3=>(F2 (c3 a b (b - a)) v0 v1 v2 k0 (pl v0 v2) v1 rfl A (nsd e3)))
theorem qDg {a:Nat} (A:a > 1):a - 2+1 < a:=(Nat.le_total 2 a).elim (fun e2=>(F1 (c2 a (a - 2)) (pl v1 k2) v0 (pl (pl v1 k1) k1) v0 rfl (nsc e2))) (fun e3=>(F2 (c2 a (a - 2)) (pl k1 k1) v0 v1 k0 (pl (pl v1 k1) k1) v0 rfl A (nsd e3)))
theorem qHJ {a:Nat} (A:a > 1):a - 2 < a:=(Nat.le_total 2 a).elim (fun e2=>(F1 (c2 a (a - 2)) (pl v1 k2) v0 (pl v1 k1) v0 rfl (nsc e2))) (fun e3=>(F2 (c2 a (a - 2)) (pl k1 k1) v0 v1 k0 (pl v1 k1) v0 rfl A (nsd e3)))
theorem qGb {a b c f:Nat} (A:a+1 < b) (B:c=b) (C:f=min a c+(c - (a+2)+1)):f+1=b:=Nat.le_antisymm ((Nat.le_total (a+2) c).elim (fun e10=>(F4 (c6 a b c f (min a c) (c - (a+2))) v2 v1 v3 (pl v4 (pl v5 k1)) (pl v5 (pl v0 k2)) v2 v4 v0 (pl v3 k1) v1 rfl (Nat.le_of_eq B) (Nat.le_of_eq C) (nsc e10) (Nat.min_le_left a c))) (fun e11=>(F4 (c5 a b f (min a c) (c - (a+2))) (pl (pl v0 k1) k1) v1 v2 (pl v3 (pl v4 k1)) v4 k0 v3 v0 (pl v2 k1) v1 rfl A (Nat.le_of_eq C) (nsd e11) (Nat.min_le_left a c)))) ((Nat.le_total a c).elim (fun e13=>(F4 (c6 a b c f (min a c) (c - (a+2))) v1 v2 (pl v4 (pl v5 k1)) v3 v0 v4 v2 (pl v5 (pl v0 k2)) v1 (pl v3 k1) rfl (Nat.le_of_eq B.symm) (Nat.le_of_eq C.symm) (nml e13) (nsb c (a+2)))) (fun e14=>(F3 (c5 b c f (min a c) (c - (a+2))) v0 v1 (pl v3 (pl v4 k1)) v2 v1 v3 v0 (pl v2 k1) rfl (Nat.le_of_eq B.symm) (Nat.le_of_eq C.symm) (nmr e14))))
theorem qCn {a b c f g:Nat} (A:a=b+c) (B:a+f≤g):b+(c+f)≤g:=F2 (c5 a b c f g) (pl v1 v2) v0 (pl v0 v3) v4 (pl v1 (pl v2 v3)) v4 rfl (Nat.le_of_eq A.symm) B
theorem qDZ {a b c f:Nat} (A:a=b+c):b+(c+f)=a+f:=Nat.le_antisymm (F1 (c4 a b c f) (pl v1 v2) v0 (pl v1 (pl v2 v3)) (pl v0 v3) rfl (Nat.le_of_eq A.symm)) (F1 (c4 a b c f) v0 (pl v1 v2) (pl v0 v3) (pl v1 (pl v2 v3)) rfl (Nat.le_of_eq A))
theorem qCu {a b:Nat} (A:1≤a):1≤a+b:=F1 (c2 a b) k1 v0 k1 (pl v0 v1) rfl A
theorem qBo {a b c:Nat} (A:a=b) (B:c < b):c < a:=F2 (c3 a b c) v1 v0 (pl v2 k1) v1 (pl v2 k1) v0 rfl (Nat.le_of_eq A.symm) B
theorem qEQ {a b c f g i j:Nat} (A:a=b+c) (B:a+f+g≤i) (C:i≤j):b+(c+f)≤j:=F3 (c7 a b c f g i j) (pl v1 v2) v0 (pl (pl v0 v3) v4) v5 v5 v6 (pl v1 (pl v2 v3)) v6 rfl (Nat.le_of_eq A.symm) B C
theorem qEu {a:Nat} :a+1 - a=1:=Nat.le_antisymm ((Nat.le_total a (a+1)).elim (fun e2=>(F1 (c2 a (a+1 - a)) (pl v1 v0) (pl v0 k1) v1 k1 rfl (nsc e2))) (fun e3=>(F1 (c1 (a+1 - a)) v0 k0 v0 k1 rfl (nsd e3)))) (F1 (c2 a (a+1 - a)) (pl v0 k1) (pl v1 v0) k1 v1 rfl (nsb (a+1) a))
theorem qFV {a b:Nat} (A:a=b):a≤b+1:=F1 (c2 a b) v0 v1 v0 (pl v1 k1) rfl (Nat.le_of_eq A)
theorem qAS {a b:Nat} (A:a=b):a≤b:=F1 (c2 a b) v0 v1 v0 v1 rfl (Nat.le_of_eq A)
theorem qHN {a b c:Nat} (A:a+1 < b) (B:c=b):min a c=a:=Nat.le_antisymm (F1 (c2 a (min a c)) v1 v0 v1 v0 rfl (Nat.min_le_left a c)) ((Nat.le_total a c).elim (fun e2=>(F1 (c2 a (min a c)) v0 v1 v0 v1 rfl (nml e2))) (fun e3=>(F3 (c4 a b c (min a c)) (pl (pl v0 k1) k1) v1 v1 v2 v2 v3 v0 v3 rfl A (Nat.le_of_eq B.symm) (nmr e3))))
theorem qDN {a b c f g:Nat} (A:a≤b) (B:c+f+g≤a):c+f≤b:=F2 (c5 a b c f g) v0 v1 (pl (pl v2 v3) v4) v0 (pl v2 v3) v1 rfl A B
theorem qDu {a b c:Nat} (A:a+1 < b) (B:c=b):a < c:=F2 (c3 a b c) (pl (pl v0 k1) k1) v1 v1 v2 (pl v0 k1) v2 rfl A (Nat.le_of_eq B.symm)
theorem qFx {a b c f:Nat} (A:a=b) (B:a+c≤f):b≤f:=F2 (c4 a b c f) v1 v0 (pl v0 v2) v3 v1 v3 rfl (Nat.le_of_eq A.symm) B
theorem qHc {a b c f g:Nat} (A:a+b+c≤f) (B:g < a+b):g < f:=F2 (c5 a b c f g) (pl (pl v0 v1) v2) v3 (pl v4 k1) (pl v0 v1) (pl v4 k1) v3 rfl A B
theorem qGl {a b c:Nat} (A:a=b) (B:a≤c):b≤c:=F2 (c3 a b c) v1 v0 v0 v2 v1 v2 rfl (Nat.le_of_eq A.symm) B
theorem qHb {a b c f g:Nat} (A:a=b) (B:1≤c) (C:a+c+f≤g):b+(f+1)≤g:=F3 (c5 a b c f g) v1 v0 k1 v2 (pl (pl v0 v2) v3) v4 (pl v1 (pl v3 k1)) v4 rfl (Nat.le_of_eq A.symm) B C
theorem qCe {a b:Nat} (A:a≤b):a≤b+1:=F1 (c2 a b) v0 v1 v0 (pl v1 k1) rfl A
theorem qDt {a:Nat} (A:a < 2):a < 64:=F1 (c1 a) (pl v0 k1) k2 (pl v0 k1) (.num 64) rfl A
theorem qBp {a b:Nat} (A:¬ a < b) (B:a < b+1):a=b:=Nat.le_antisymm (F1 (c2 b a) (pl v1 k1) (pl v0 k1) v1 v0 rfl B) (F1 (c2 b a) v0 v1 v0 v1 rfl (Nat.le_of_not_lt A))
theorem qGh {a:Nat} (A:(a:Int) < 2 ^ 63):¬ (a:Int)≥2 ^ 63:=Int.not_le_of_gt (Z1 (d1 (a:Int)) (zp w0 l1) (.num ((2:Int) ^ (63:Nat))) (zp w0 l1) (.num ((2:Int) ^ (63:Nat))) rfl A)
theorem qGp {a b:Nat} {c:Int} (A:c < (a:Int)) (B:b=a):c < (b:Int):=Z2 (d3 c (a:Int) (b:Int)) (zp w0 l1) w1 w1 w2 (zp w0 l1) w2 rfl A (Int.ofNat_le.mpr (Nat.le_of_eq B.symm))
theorem qAg {a:Int} (A:0≤a):¬ a < 0:=Int.not_lt_of_ge (Z1 (d1 a) l0 w0 l0 w0 rfl A)
theorem qEt {a:Int} (A:0≤a) (B:a < 2 ^ 63):(-9223372036854775808)≤a∧a < 9223372036854775808:=⟨(Z1 (d1 a) l0 w0 (.neg (.num 9223372036854775808)) w0 rfl A),(Z1 (d1 a) (zp w0 l1) (.num ((2:Int) ^ (63:Nat))) (zp w0 l1) (.num 9223372036854775808) rfl B)⟩
theorem qAX {a:Nat} {b:Int} (A:0≤b) (B:b < (a:Int)):Int.toNat b < a:=(Int.le_total 0 b).elim (fun e2=>(Int.ofNat_le.mp (Z2 (d3 b (a:Int) ((Int.toNat b:Nat):Int)) (zp w0 l1) w1 w2 w0 (zp w2 l1) w1 rfl B (ztp e2)))) (fun e3=>(Int.ofNat_le.mp (Z3 (d3 b (a:Int) ((Int.toNat b:Nat):Int)) l0 w0 (zp w0 l1) w1 w2 l0 (zp w2 l1) w1 rfl A B (ztq e3))))
theorem qCt {a:Nat} :1 < ((a+1+1:Nat):Int):=Z1 (d1 (a:Int)) l0 w0 (zp l1 l1) (zp (zp w0 l1) l1) rfl (Int.natCast_nonneg a)
theorem qBx {a:Nat} :0 < ((a+1:Nat):Int):=Z1 (d1 (a:Int)) l0 w0 (zp l0 l1) (zp w0 l1) rfl (Int.natCast_nonneg a)
theorem qEM {a:Nat} {b:Int} (A:0≤b) (B:b < (a:Int)):0≤b∧b < (a:Int):=⟨(Z1 (d1 b) l0 w0 l0 w0 rfl A),(Z1 (d2 b (a:Int)) (zp w0 l1) w1 (zp w0 l1) w1 rfl B)⟩
theorem qGx {a:Int} (A:0≤a):(-2 ^ 63)≤a:=Z1 (d1 a) l0 w0 (.neg (.num ((2:Int) ^ (63:Nat)))) w0 rfl A
theorem qGI {a b:Nat} (A:(a:Int) < (b:Int)):a < b:=Int.ofNat_le.mp (Z1 (d2 (a:Int) (b:Int)) (zp w0 l1) w1 (zp w0 l1) w1 rfl A)
theorem qGK {a:Nat} (A:¬ a > 1):a≤1:=F1 (c1 a) v0 k1 v0 k1 rfl (Nat.le_of_not_lt A)
theorem qC3 {a:Nat} (A:a > 1):¬ a=0:=(fun e1=>(nf (F2 (c1 a) (pl k1 k1) v0 v0 k0 k1 k0 rfl A (Nat.le_of_eq e1))))
theorem qDC {a:Nat} (A:(0:Nat)+(1:Nat)=(0:Nat)):a=0:=Nat.le_antisymm (nf (F1 (.leaf 0) (pl k0 k1) k0 k1 k0 rfl (Nat.le_of_eq A))) (nval (c1 a) (a:=k0) (b:=v0) rfl)
theorem qDL {a b:Nat} (A:a≤1) (B:b < a):a=1:=Nat.le_antisymm (F1 (c1 a) v0 k1 v0 k1 rfl A) (F1 (c2 a b) (pl v1 k1) v0 k1 v0 rfl B)
theorem qEv {a b:Nat} (A:a≤1) (B:b < a):b=0:=Nat.le_antisymm (F2 (c2 a b) v0 k1 (pl v1 k1) v0 v1 k0 rfl A B) (nval (c1 b) (a:=k0) (b:=v0) rfl)
theorem qFM {a b c:Nat} (A:a < b) (B:c=b):a < c:=F2 (c3 a b c) (pl v0 k1) v1 v1 v2 (pl v0 k1) v2 rfl A (Nat.le_of_eq B.symm)
theorem qGy {a b c:Nat} (A:a≤3) (B:b+10 * (c+1)≤9000):b+a+10 * c≤9000:=F2 (c3 a b c) v0 k3 (pl v1 (.mulL 10 (pl v2 k1))) (.num 9000) (pl (pl v1 v0) (.mulL 10 v2)) (.num 9000) rfl A B
theorem qCN {a b c:Nat} (A:a=1) (B:b+(c+1)≤900):b+a+c≤900:=F2 (c3 a b c) v0 k1 (pl v1 (pl v2 k1)) (.num 900) (pl (pl v1 v0) v2) (.num 900) rfl (Nat.le_of_eq A) B
theorem qFI {a b:Nat} (A:a≤900) (B:b≤a):b+1≤901:=F2 (c2 a b) v0 (.num 900) v1 v0 (pl v1 k1) (.num 901) rfl A B
theorem qCz {a b:Nat} (A:a≤900) (B:b≤a):b≤901:=F2 (c2 a b) v0 (.num 900) v1 v0 v1 (.num 901) rfl A B
theorem qFa {a b:Nat} (A:a=b+1):0 < a:=F1 (c2 a b) (pl v1 k1) v0 (pl k0 k1) v0 rfl (Nat.le_of_eq A.symm)
theorem qCQ {a b c:Nat} (A:a - b=c+1):a - (b+1)=c:=Nat.le_antisymm ((Nat.le_total (b+1) a).elim (fun e10=>(F3 (c5 (a - b) c b a (a - (b+1))) v0 (pl v1 k1) (pl v4 (pl v2 k1)) v3 v3 (pl v0 v2) v4 v1 rfl (Nat.le_of_eq A) (nsc e10) (nsb a b))) (fun e11=>(F1 (c2 c (a - (b+1))) v1 k0 v1 v0 rfl (nsd e11)))) ((Nat.le_total b a).elim (fun e13=>(F3 (c5 (a - b) c b a (a - (b+1))) (pl v1 k1) v0 (pl v0 v2) v3 v3 (pl v4 (pl v2 k1)) v1 v4 rfl (Nat.le_of_eq A.symm) (nsc e13) (nsb a (b+1)))) (fun e14=>(F2 (c3 (a - b) c (a - (b+1))) (pl v1 k1) v0 v0 k0 v1 v2 rfl (Nat.le_of_eq A.symm) (nsd e14))))
theorem qCY {a b c f g:Nat} (A:a+1 < b) (B:a - c=f+1) (C:g≤c):g+1 < b:=(Nat.le_total c a).elim (fun e2=>(F3 (c4 a b g c) (pl (pl v0 k1) k1) v1 v2 v3 v3 v0 (pl (pl v2 k1) k1) v1 rfl A C e2)) (fun e3=>(nf (F2 (c2 (a - c) f) (pl v1 k1) v0 v0 k0 k1 k0 rfl (Nat.le_of_eq B.symm) (nsd e3))))
theorem qGu {a b c:Nat} (A:a - b=c+1):b < a:=(Nat.le_total b a).elim (fun e2=>(F2 (c4 (a - b) c b a) (pl v1 k1) v0 (pl v0 v2) v3 (pl v2 k1) v3 rfl (Nat.le_of_eq A.symm) (nsc e2))) (fun e3=>(nf (F2 (c2 (a - b) c) (pl v1 k1) v0 v0 k0 k1 k0 rfl (Nat.le_of_eq A.symm) (nsd e3))))
theorem qGE {a b:Nat} (A:a - b=0) (B:b≤a):b=a:=Nat.le_antisymm (F1 (c2 b a) v0 v1 v0 v1 rfl B) (F2 (c3 (a - b) b a) v0 k0 v2 (pl v0 v1) v2 v1 rfl (Nat.le_of_eq A) (nsb a b))
theorem qET {a:Nat} {b:Int} :a≤Int.toNat ((a:Int) - b)+Int.toNat b:=Int.ofNat_le.mp (Z2 (d4 (a:Int) b ((Int.toNat ((a:Int) - b):Nat):Int) ((Int.toNat b:Nat):Int)) (.sub w0 w1) w2 w1 w3 w0 (zp w2 w3) rfl (ztn ((a:Int) - b)) (ztn b))
theorem qHS {a:Nat} {b:Int} (A:(a:Int) < b):a≤Int.toNat b:=Int.ofNat_le.mp (Z2 (d3 (a:Int) b ((Int.toNat b:Nat):Int)) (zp w0 l1) w1 w1 w2 w0 w2 rfl A (ztn b))
theorem qGH {a:Nat} {b:Int} (A:(a:Int) < b):max 0 (min b (a:Int))=(a:Int):=Int.le_antisymm ((Int.le_total 0 (min b (a:Int))).elim (fun e10=>(Z2 (d3 (a:Int) (min b (a:Int)) (max 0 (min b (a:Int)))) w2 w1 w1 w0 w2 w0 rfl (zyl e10) (Int.min_le_right b (a:Int)))) (fun e11=>(Z2 (d2 (a:Int) (max 0 (min b (a:Int)))) w1 l0 l0 w0 w1 w0 rfl (zyr e11) (Int.natCast_nonneg a)))) ((Int.le_total b (a:Int)).elim (fun e13=>(Z3 (d4 (a:Int) b (min b (a:Int)) (max 0 (min b (a:Int)))) (zp w0 l1) w1 w1 w2 w2 w3 w0 w3 rfl A (zml e13) (Int.le_max_right 0 (min b (a:Int))))) (fun e14=>(Z2 (d3 (a:Int) (min b (a:Int)) (max 0 (min b (a:Int)))) w0 w1 w1 w2 w0 w2 rfl (zmr e14) (Int.le_max_right 0 (min b (a:Int))))))
theorem qC2 {a b c f g:Nat} (A:a+b≤c) (B:f=a) (C:g=b):f+g≤c:=F3 (c5 a b c f g) (pl v0 v1) v2 v3 v0 v4 v1 (pl v3 v4) v2 rfl A (Nat.le_of_eq B) (Nat.le_of_eq C)
theorem qCG {a b:Nat} (A:a+200 < b):a+1+100 < b:=F1 (c2 a b) (pl (pl v0 (.num 200)) k1) v1 (pl (pl (pl v0 k1) (.num 100)) k1) v1 rfl A
theorem qEP {a b:Nat} (A:a+200 < b):a < b:=F1 (c2 a b) (pl (pl v0 (.num 200)) k1) v1 (pl v0 k1) v1 rfl A
theorem qHB {a b c f:Nat} (A:a+100 < b) (B:c≤100):a+min c f < b:=F3 (c4 a b c (min c f)) (pl (pl v0 (.num 100)) k1) v1 v2 (.num 100) v3 v2 (pl (pl v0 v3) k1) v1 rfl A B (Nat.min_le_left c f)
theorem qGo {a b:Nat} (A:a+b≤900):a < 1000:=F1 (c2 a b) (pl v0 v1) (.num 900) (pl v0 k1) (.num 1000) rfl A
theorem qDI {a b c:Nat} (A:a≤b) (B:c+10 * b≤9000):c+10 * a≤9000:=F2 (c3 a b c) (.mulL 10 v0) (.mulL 10 v1) (pl v2 (.mulL 10 v1)) (.num 9000) (pl v2 (.mulL 10 v0)) (.num 9000) rfl (Nat.mul_le_mul_left 10 A) B
theorem qD0 {a b c:Nat} (A:a≤b) (B:c+b≤900):c+a≤900:=F2 (c3 a b c) v0 v1 (pl v2 v1) (.num 900) (pl v2 v0) (.num 900) rfl A B
theorem qEN {a b:Nat} (A:a+10 * (b+1)≤9000):a+3+10 * b≤9000:=F1 (c2 a b) (pl v0 (.mulL 10 (pl v1 k1))) (.num 9000) (pl (pl v0 k3) (.mulL 10 v1)) (.num 9000) rfl A
theorem qDm {a b:Nat} (A:a+(b+1)≤900):a+1+b≤900:=F1 (c2 a b) (pl v0 (pl v1 k1)) (.num 900) (pl (pl v0 k1) v1) (.num 900) rfl A
theorem qFm {a b c:Nat} (A:a+100 < b) (B:c≤1):a+(c+1) < b:=F2 (c3 a b c) (pl (pl v0 (.num 100)) k1) v1 v2 k1 (pl (pl v0 (pl v2 k1)) k1) v1 rfl A B
theorem qBN {a b c f:Nat} (A:a+100 < b) (B:min c f≤100):a+min c f < b:=F2 (c3 a b (min c f)) (pl (pl v0 (.num 100)) k1) v1 v2 (.num 100) (pl (pl v0 v2) k1) v1 rfl A B
theorem qDi {a b:Int} (A:¬ a < b):b≤a:=Z1 (d2 b a) w0 w1 w0 w1 rfl (Int.not_lt.mp A)
theorem qEz {a b:Int} (A:a < b):a≤b:=Z1 (d2 a b) (zp w0 l1) w1 w0 w1 rfl A
theorem qEA {a b:Int} (A:¬ a > b):a≤b:=Z1 (d2 a b) w0 w1 w0 w1 rfl (Int.not_lt.mp A)
theorem qEG {a b:Int} (A:a > b):b≤a:=Z1 (d2 b a) (zp w0 l1) w1 w0 w1 rfl A
theorem qBK {a:Int} (A:0 < a):0≤a:=Z1 (d1 a) (zp l0 l1) w0 l0 w0 rfl A
theorem qBB {a:Int} (A:0 < a):a≠0:=(fun e1=>(zf (Z2 (d1 a) (zp l0 l1) w0 w0 l0 l1 l0 rfl A (Int.le_of_eq e1))))
theorem qBc {a b:Nat} (A:a≤b) (B:¬ a < b):a=b:=Nat.le_antisymm (F1 (c2 a b) v0 v1 v0 v1 rfl A) (F1 (c2 a b) v1 v0 v1 v0 rfl (Nat.le_of_not_lt B))
theorem qAL {a b:Nat} (A:a < b):b - (a+1) < b - a:=(Nat.le_total (a+1) b).elim (fun e2=>(F2 (c4 a b (b - (a+1)) (b - a)) (pl v2 (pl v0 k1)) v1 v1 (pl v3 v0) (pl v2 k1) v3 rfl (nsc e2) (nsb b a))) (fun e3=>(F3 (c4 a b (b - (a+1)) (b - a)) (pl v0 k1) v1 v2 k0 v1 (pl v3 v0) (pl v2 k1) v3 rfl A (nsd e3) (nsb b a)))
theorem qEc {a:Nat} :((a+1:Nat):Int)=(a:Int)+1:=Int.le_antisymm (zval (d1 (a:Int)) (a:=(zp w0 l1)) (b:=(zp w0 l1)) rfl) (zval (d1 (a:Int)) (a:=(zp w0 l1)) (b:=(zp w0 l1)) rfl)
theorem qER {a b:Nat} (A:a=b):b≤a:=F1 (c2 a b) v1 v0 v1 v0 rfl (Nat.le_of_eq A.symm)
theorem qGa {a b:Nat} :a≤b+a - b:=F1 (c3 b a (b+a - b)) (pl v0 v1) (pl v2 v0) v1 v2 rfl (nsb (b+a) b)
theorem qAz {a b c f:Nat} (A:a=b) (B:c < a) (C:c=b+f):False:=nf (F3 (c4 a b c f) v0 v1 (pl v2 k1) v0 (pl v1 v3) v2 k1 k0 rfl (Nat.le_of_eq A) B (Nat.le_of_eq C.symm))
theorem qGT {a:Nat} (A:¬ 50 < (a:Int)):a≤50:=Int.ofNat_le.mp (Z1 (d1 (a:Int)) w0 (.num 50) w0 (.num 50) rfl (Int.not_lt.mp A))
theorem qCF {a:Nat} (A:a≤250):(a:Int) < 2 ^ 63:=Z1 (d1 (a:Int)) w0 (.num 250) (zp w0 l1) (.num ((2:Int) ^ (63:Nat))) rfl (Int.ofNat_le.mpr A)
theorem qAF {a:Nat} (A:a≤250):a≤1000:=F1 (c1 a) v0 (.num 250) v0 (.num 1000) rfl A
theorem qDx {a:Nat} (A:a+10 * 20≤9000):a+200 < 9900:=F1 (c1 a) (pl v0 (.mulL 10 (.num 20))) (.num 9000) (pl (pl v0 (.num 200)) k1) (.num 9900) rfl A
theorem qHm {a:Nat} (A:a≤250):a≤100000:=F1 (c1 a) v0 (.num 250) v0 (.num 100000) rfl A
theorem qAA :(0:Int) < (5:Int):=zval (.leaf 0) (a:=(zp l0 l1)) (b:=l5) rfl
theorem qF5 {a b:Int} (A:0≤a∧a≤14) (B:0≤b∧b≤2):0≤a∧a≤14∧0≤b∧b≤2:=⟨(Z1 (d1 a) l0 w0 l0 w0 rfl A.1),⟨(Z1 (d1 a) w0 (.num 14) w0 (.num 14) rfl A.2),⟨(Z1 (d1 b) l0 w0 l0 w0 rfl B.1),(Z1 (d1 b) w0 l2 w0 l2 rfl B.2)⟩⟩⟩
theorem qD1 {a b:Nat} (A:a < Int.toNat ((b:Int) - 3)):0≤3+(a:Int)∧3+(a:Int) < (b:Int):=⟨(Z1 (d1 (a:Int)) l0 w0 l0 (zp l3 w0) rfl (Int.natCast_nonneg a)),((Int.le_total 0 ((b:Int) - 3)).elim (fun e2=>(Z2 (d3 (a:Int) ((Int.toNat ((b:Int) - 3):Nat):Int) (b:Int)) (zp w0 l1) w1 w1 (.sub w2 l3) (zp (zp l3 w0) l1) w2 rfl (Int.ofNat_le.mpr A) (ztp e2))) (fun e3=>(zf (Z3 (d2 (a:Int) ((Int.toNat ((b:Int) - 3):Nat):Int)) (zp w0 l1) w1 w1 l0 l0 w0 l1 l0 rfl (Int.ofNat_le.mpr A) (ztq e3) (Int.natCast_nonneg a)))))⟩
theorem qGX {a:Nat} (A:a≤63):(a:Int) < 2 ^ 62:=Z1 (d1 (a:Int)) w0 (.num 63) (zp w0 l1) (.num ((2:Int) ^ (62:Nat))) rfl (Int.ofNat_le.mpr A)
theorem qB5 {a:Nat} :(-2 ^ 62)≤(a:Int):=Z1 (d1 (a:Int)) l0 w0 (.neg (.num ((2:Int) ^ (62:Nat)))) w0 rfl (Int.natCast_nonneg a)
theorem qC6 :(3:Int) < (2:Int) ^ 62:=zval (.leaf 0) (a:=(zp l3 l1)) (b:=(.num ((2:Int) ^ (62:Nat)))) rfl
theorem qEV :(-(2:Int) ^ 62)≤(3:Int):=zval (.leaf 0) (a:=(.neg (.num ((2:Int) ^ (62:Nat))))) (b:=l3) rfl
theorem qB1 {a b:Int} (A:0≤a∧a≤14) (B:0≤b∧b≤2):0≤a∧0≤b∧a < 10 ^ 60∧b < 10 ^ 60:=⟨(Z1 (d1 a) l0 w0 l0 w0 rfl A.1),⟨(Z1 (d1 b) l0 w0 l0 w0 rfl B.1),⟨(Z1 (d1 a) w0 (.num 14) (zp w0 l1) (.num ((10:Int) ^ (60:Nat))) rfl A.2),(Z1 (d1 b) w0 l2 (zp w0 l1) (.num ((10:Int) ^ (60:Nat))) rfl B.2)⟩⟩⟩
theorem qF0 {a:Nat} (A:a+10 * 20≤9000):a+100 < 9900:=F1 (c1 a) (pl v0 (.mulL 10 (.num 20))) (.num 9000) (pl (pl v0 (.num 100)) k1) (.num 9900) rfl A
theorem qHY {a:Int} (A:0≤a∧a≤2) (B:¬ 0 < a):a=0:=Int.le_antisymm (Z1 (d1 a) w0 l0 w0 l0 rfl (Int.not_lt.mp B)) (Z1 (d1 a) l0 w0 l0 w0 rfl A.1)
theorem qHP {a b:Int} (A:0≤a∧a≤14) (B:0 < b):0≤a∧(0:Int)≤(0:Int)∧(0:Int)≤(0:Int)∧0≤b∧0 < 0+b:=⟨(Z1 (d1 a) l0 w0 l0 w0 rfl A.1),⟨(zval (.leaf 0) (a:=l0) (b:=l0) rfl),⟨(zval (.leaf 0) (a:=l0) (b:=l0) rfl),⟨(Z1 (d1 b) (zp l0 l1) w0 l0 w0 rfl B),(Z1 (d1 b) (zp l0 l1) w0 (zp l0 l1) (zp l0 w0) rfl B)⟩⟩⟩⟩
theorem qHo {a:Int} (A:0≤a∧a≤2) (B:0 < a):1≤a∧a≤1000000000:=⟨(Z1 (d1 a) (zp l0 l1) w0 l1 w0 rfl B),(Z1 (d1 a) w0 l2 w0 (.num 1000000000) rfl A.2)⟩
theorem qEf {a:Int} (A:0≤a∧a≤14) (B:¬ 0 < a):a=0:=Int.le_antisymm (Z1 (d1 a) w0 l0 w0 l0 rfl (Int.not_lt.mp B)) (Z1 (d1 a) l0 w0 l0 w0 rfl A.1)
theorem qD6 {a:Int} (A:0 < a):(0:Int)≤(0:Int)∧(0:Int)≤(0:Int)∧0≤a∧(0:Int)≤(0:Int)∧0 < a+0:=⟨(zval (.leaf 0) (a:=l0) (b:=l0) rfl),⟨(zval (.leaf 0) (a:=l0) (b:=l0) rfl),⟨(Z1 (d1 a) (zp l0 l1) w0 l0 w0 rfl A),⟨(zval (.leaf 0) (a:=l0) (b:=l0) rfl),(Z1 (d1 a) (zp l0 l1) w0 (zp l0 l1) (zp w0 l0) rfl A)⟩⟩⟩⟩
theorem qCx {a:Int} (A:0≤a∧a≤14) (B:0 < a):1≤a∧a≤1000000000:=⟨(Z1 (d1 a) (zp l0 l1) w0 l1 w0 rfl B),(Z1 (d1 a) w0 (.num 14) w0 (.num 1000000000) rfl A.2)⟩
theorem qE4 {a:Int} :0≤a % 3∧a % 3≤2:=⟨(Z1 (d1 (a % 3)) l0 w0 l0 w0 rfl (zmz 3 a rfl)),(Z1 (d1 (a % 3)) (zp w0 l1) l3 w0 l2 rfl (zmk 3 a rfl))⟩
theorem qFp {a:Int} :0≤a % 3 * 7∧a % 3 * 7≤14:=⟨(Z1 (d1 (a % 3)) (.mulL 7 l0) (.mulL 7 w0) l0 (.mulR w0 7) rfl (zmu 7 (zmz 3 a rfl))),(Z1 (d1 (a % 3)) (.mulL 7 (zp w0 l1)) (.mulL 7 l3) (.mulR w0 7) (.num 14) rfl (zmu 7 (zmk 3 a rfl)))⟩
theorem qAc :(0:Int) < (3:Int):=zval (.leaf 0) (a:=(zp l0 l1)) (b:=l3) rfl
theorem qCd :(0:Int)≤(2:Int):=zval (.leaf 0) (a:=l0) (b:=l2) rfl
theorem qF7 :(0:Int)≤(1:Int):=zval (.leaf 0) (a:=l0) (b:=l1) rfl
theorem qCo :(0:Int)≤(0:Int):=zval (.leaf 0) (a:=l0) (b:=l0) rfl
theorem qEk {a b:Nat} (A:a≤200) (B:b≤50):b+a≤250:=F2 (c2 a b) v0 (.num 200) v1 (.num 50) (pl v1 v0) (.num 250) rfl A B
theorem qGZ {a b:Nat} (A:a≤200) (B:b≤50):b+a≤1000:=F2 (c2 a b) v0 (.num 200) v1 (.num 50) (pl v1 v0) (.num 1000) rfl A B
theorem qA6 {a b:Nat} (A:a≤200) (B:b≤a):(b:Int) < 2 ^ 63:=Z2 (d2 (a:Int) (b:Int)) w0 (.num 200) w1 w0 (zp w1 l1) (.num ((2:Int) ^ (63:Nat))) rfl (Int.ofNat_le.mpr A) (Int.ofNat_le.mpr B)
theorem qAT {a:Nat} (A:a≤200):a≤1000:=F1 (c1 a) v0 (.num 200) v0 (.num 1000) rfl A
theorem qAH {a:Nat} (A:a+10 * 8≤9000):a+200 < 9900:=F1 (c1 a) (pl v0 (.mulL 10 k8)) (.num 9000) (pl (pl v0 (.num 200)) k1) (.num 9900) rfl A
theorem qES {a:Nat} (A:a≤50):a≤250:=F1 (c1 a) v0 (.num 50) v0 (.num 250) rfl A
theorem qAn {a:Nat} (A:a≤200):a≤100000:=F1 (c1 a) v0 (.num 200) v0 (.num 100000) rfl A
theorem qAB {a:Nat} (A:a≤50):a≤200:=F1 (c1 a) v0 (.num 50) v0 (.num 200) rfl A
theorem qAN {a:Nat} (A:a≤50):a≤1000:=F1 (c1 a) v0 (.num 50) v0 (.num 1000) rfl A
theorem qBL {a b:Nat} (A:a≤50) (B:b≤a):b≤100000:=F2 (c2 a b) v0 (.num 50) v1 v0 v1 (.num 100000) rfl A B
theorem qFO {a b:Nat} (A:a≤50) (B:b≤2 * a):b≤200:=F2 (c2 a b) (.mulL 2 v0) (.mulL 2 (.num 50)) v1 (.mulL 2 v0) v1 (.num 200) rfl (Nat.mul_le_mul_left 2 A) B
theorem qDp {a b:Nat} (A:a≤50) (B:b≤2 * a):b+1≤200:=F2 (c2 a b) (.mulL 2 v0) (.mulL 2 (.num 50)) v1 (.mulL 2 v0) (pl v1 k1) (.num 200) rfl (Nat.mul_le_mul_left 2 A) B
theorem qED {a b c:Int} (A:0≤a∧a≤14∧0≤b∧b≤2):0≤a+c / 5 % 2∧0≤b+1 - c / 5 % 2∧0 < a+c / 5 % 2+(b+1 - c / 5 % 2)∧a+c / 5 % 2 < 10 ^ 60∧b+1 - c / 5 % 2 < 10 ^ 60:=⟨(Z2 (d2 a (c / 5 % 2)) l0 w0 l0 w1 l0 (zp w0 w1) rfl A.1 (zmz 2 (c / 5) rfl)),⟨(Z2 (d2 b (c / 5 % 2)) l0 w0 (zp w1 l1) l2 l0 (.sub (zp w0 l1) w1) rfl A.2.2.1 (zmk 2 (c / 5) rfl)),⟨(Z2 (d3 a b (c / 5 % 2)) l0 w0 l0 w1 (zp l0 l1) (zp (zp w0 w2) (.sub (zp w1 l1) w2)) rfl A.1 A.2.2.1),⟨(Z2 (d2 a (c / 5 % 2)) w0 (.num 14) (zp w1 l1) l2 (zp (zp w0 w1) l1) (.num ((10:Int) ^ (60:Nat))) rfl A.2.1 (zmk 2 (c / 5) rfl)),(Z2 (d2 b (c / 5 % 2)) w0 l2 l0 w1 (zp (.sub (zp w0 l1) w1) l1) (.num ((10:Int) ^ (60:Nat))) rfl A.2.2.2 (zmz 2 (c / 5) rfl))⟩⟩⟩⟩
theorem qC1 {a b:Nat} (A:a≤50) (B:b≤2 * a):b≤100000:=F2 (c2 a b) (.mulL 2 v0) (.mulL 2 (.num 50)) v1 (.mulL 2 v0) v1 (.num 100000) rfl (Nat.mul_le_mul_left 2 A) B
theorem qAQ :(0:Int) < (2:Int):=zval (.leaf 0) (a:=(zp l0 l1)) (b:=l2) rfl
theorem qHT {a:Int} (A:a % 5=1):a % 5≠3:=(fun e1=>(zf (Z2 (d1 (a % 5)) w0 l1 l3 w0 l1 l0 rfl (Int.le_of_eq A) (Int.le_of_eq e1.symm))))
theorem qAP :(0:Int) < (4:Int):=zval (.leaf 0) (a:=(zp l0 l1)) (b:=l4) rfl
theorem qFG {a:Int} :0≤a / 5 % 4∧a / 5 % 4≤200:=⟨(Z1 (d1 (a / 5 % 4)) l0 w0 l0 w0 rfl (zmz 4 (a / 5) rfl)),(Z1 (d1 (a / 5 % 4)) (zp w0 l1) l4 w0 (.num 200) rfl (zmk 4 (a / 5) rfl))⟩
theorem qF8 {a b:Int} (A:a≤155) (B:b / 5 / 32 % a < a) (C:0≤b / 5 / 32 % a):0≤45+b / 5 / 32 % a∧45+b / 5 / 32 % a≤200:=⟨(Z1 (d1 (b / 5 / 32 % a)) l0 w0 l0 (zp (.num 45) w0) rfl C),(Z2 (d2 a (b / 5 / 32 % a)) w0 (.num 155) (zp w1 l1) w0 (zp (.num 45) w1) (.num 200) rfl A B)⟩
theorem qEo {a:Nat} (A:a≤50):(a:Int) < 2 ^ 63:=Z1 (d1 (a:Int)) w0 (.num 50) (zp w0 l1) (.num ((2:Int) ^ (63:Nat))) rfl (Int.ofNat_le.mpr A)
theorem qG0 :(0:Int) < (32:Int):=zval (.leaf 0) (a:=(zp l0 l1)) (b:=(.num 32)) rfl
theorem qAp :(0:Int) < (8:Int):=zval (.leaf 0) (a:=(zp l0 l1)) (b:=l8) rfl
theorem qC7 {a:Int} (A:¬ a % 9 < 5):a % 9=5∨a % 9=6∨a % 9=7∨a % 9=8:=(zor (Z1 (d1 (a % 9)) l5 w0 l5 w0 rfl (Int.not_lt.mp A))).elim (fun e2=>.inl e2.symm) (fun e1=>.inr ((zor e1).elim (fun e4=>.inl e4.symm) (fun e3=>.inr ((zor e3).elim (fun e6=>.inl e6.symm) (fun e5=>.inr (Int.le_antisymm (Z1 (d1 (a % 9)) (zp w0 l1) l9 w0 l8 rfl (zmk 9 a rfl)) e5))))))
theorem qDV {a:Int} :a % 9 - 5 < 2 ^ 63:=Z1 (d1 (a % 9)) (zp w0 l1) l9 (zp (.sub w0 l5) l1) (.num ((2:Int) ^ (63:Nat))) rfl (zmk 9 a rfl)
theorem qCp {a:Int} :a % 9 - 5 < (((0:Nat)+(1:Nat)+(1:Nat)+(1:Nat)+(1:Nat):Nat):Int):=Z1 (d1 (a % 9)) (zp w0 l1) l9 (zp (.sub w0 l5) l1) (zp (zp (zp (zp l0 l1) l1) l1) l1) rfl (zmk 9 a rfl)
theorem qG9 {a:Int} (A:¬ a % 9 < 5):0≤a % 9 - 5:=Z1 (d1 (a % 9)) l5 w0 l0 (.sub w0 l5) rfl (Int.not_lt.mp A)
theorem qE5 {a:Int} (A:¬ (1 < a % 9∧a % 9 < 5)) (B:a % 9 < 5):a % 9 < 2:=(Decidable.not_and_iff_not_or_not.mp A).elim (fun e2=>(Z1 (d1 (a % 9)) w0 l1 (zp w0 l1) l2 rfl (Int.not_lt.mp e2))) (fun e3=>(Z3 (d1 (a % 9)) (.mulL 9 (zp w0 l1)) (.mulL 9 l5) (.mulL 9 l5) (.mulL 9 w0) (zp w0 l1) l9 (zp w0 l1) l2 rfl (zmu 9 B) (zmu 9 (Int.not_lt.mp e3)) (zmk 9 a rfl)))
theorem qA2 :(0:Int) < (585:Int):=zval (.leaf 0) (a:=(zp l0 l1)) (b:=(.num 585)) rfl
theorem qBv :(0:Int) < (9:Int):=zval (.leaf 0) (a:=(zp l0 l1)) (b:=l9) rfl
theorem qAf {a:Nat} (A:a≤8):a < 10 ^ 9:=F1 (c1 a) v0 k8 (pl v0 k1) (.num ((10:Nat) ^ (9:Nat))) rfl A
theorem qGG {a:Int} (A:¬ a % 9=1) (B:a % 9 < 2):a % 9=0:=Int.le_antisymm ((Int.lt_or_gt_of_ne A).elim (fun e2=>(Z1 (d1 (a % 9)) (zp w0 l1) l1 w0 l0 rfl e2)) (fun e3=>(Z2 (d1 (a % 9)) (.mulL 2 (zp w0 l1)) (.mulL 2 l2) (zp l1 l1) w0 w0 l0 rfl (zmu 2 B) e3))) (Z1 (d1 (a % 9)) l0 w0 l0 w0 rfl (zmz 9 a rfl))
theorem qD8 {a:Nat} (A:a < Int.toNat ((201:Int) - (0:Int))):52+a≤1000:=(Int.le_total 0 (201 - 0)).elim (fun e2=>(Int.ofNat_le.mp (Z2 (d2 (a:Int) ((Int.toNat ((201:Int) - (0:Int)):Nat):Int)) (zp w0 l1) w1 w1 (.sub (.num 201) l0) (zp (.num 52) w0) (.num 1000) rfl (Int.ofNat_le.mpr A) (ztp e2)))) (fun e3=>(Int.ofNat_le.mp (Z2 (d2 (a:Int) ((Int.toNat ((201:Int) - (0:Int)):Nat):Int)) (zp w0 l1) w1 w1 l0 (zp (.num 52) w0) (.num 1000) rfl (Int.ofNat_le.mpr A) (ztq e3))))
theorem qGM {a:Nat} :Int.toNat ((0+(a:Int)) / 26)=a / 26:=Nat.le_antisymm ((Int.le_total 0 ((0+(a:Int)) / 26)).elim (fun e2=>(Nat.le_of_not_lt fun e4=>zf (Z4 (d6 ((0+(a:Int)) / 26) ((Int.toNat ((0+(a:Int)) / 26):Nat):Int) ((0+(a:Int)) % 26) (a:Int) ((a % 26:Nat):Int) ((a / 26:Nat):Int)) (zp (zp (.mulL 26 w1) (zp w2 (.mulL 26 w0))) l0) (zp (zp (.mulL 26 w0) (zp l0 w3)) w2) w3 (zp w4 (.mulL 26 w5)) (zp w4 l1) (.num 26) (.mulL 26 (zp w5 l1)) (.mulL 26 w1) l1 l0 rfl (Int.add_le_add (Int.add_le_add (zmu 26 (ztp e2)) (zmo 26 (0+(a:Int)))) (zmz 26 (0+(a:Int)) rfl)) (Int.ofNat_le.mpr (nmp 26 a)) (Int.ofNat_le.mpr (nmk 26 a rfl)) (zmu 26 (Int.ofNat_le.mpr e4))))) (fun e3=>(Int.ofNat_le.mp (Z2 (d2 ((Int.toNat ((0+(a:Int)) / 26):Nat):Int) ((a / 26:Nat):Int)) w0 l0 l0 w1 w0 w1 rfl (ztq e3) (Int.natCast_nonneg (a / 26)))))) (Nat.le_of_not_lt fun e5=>zf (Z4 (d6 ((a % 26:Nat):Int) ((a / 26:Nat):Int) (a:Int) ((0+(a:Int)) % 26) ((0+(a:Int)) / 26) ((Int.toNat ((0+(a:Int)) / 26):Nat):Int)) (zp (zp (zp w0 (.mulL 26 w1)) (zp l0 w2)) (zp w3 l1)) (zp (zp w2 (zp w3 (.mulL 26 w4))) (.num 26)) (.mulL 26 w4) (.mulL 26 w5) (.mulL 26 (zp w5 l1)) (.mulL 26 w1) l0 w0 l1 l0 rfl (Int.add_le_add (Int.add_le_add (Int.ofNat_le.mpr (nmo 26 a)) (zmp 26 (0+(a:Int)))) (zmk 26 (0+(a:Int)) rfl)) (zmu 26 (ztn ((0+(a:Int)) / 26))) (zmu 26 (Int.ofNat_le.mpr e5)) (Int.natCast_nonneg (a % 26))))
theorem qEE {a:Nat} :Int.toNat ((0+(a:Int)) % 26)=a % 26:=by omega
theorem qFc {a:Nat} (A:a < Int.toNat ((201:Int) - (0:Int))):Int.toNat ((0+(a:Int)) / 26) < 26:=(Int.le_total 0 (201 - 0)).elim (fun e2=>((Int.le_total 0 ((0+(a:Int)) / 26)).elim (fun e7=>(Nat.le_of_not_lt fun e9=>zf (Z4 (d5 (a:Int) ((Int.toNat ((201:Int) - (0:Int)):Nat):Int) ((0+(a:Int)) / 26) ((Int.toNat ((0+(a:Int)) / 26):Nat):Int) ((0+(a:Int)) % 26)) (zp (zp (zp w0 l1) w1) (.mulL 26 w3)) (zp (zp w1 (.sub (.num 201) l0)) (.mulL 26 w2)) (zp w4 (.mulL 26 w2)) (zp l0 w0) l0 w4 (.mulL 26 (zp (.num 26) l1)) (.mulL 26 (zp w3 l1)) l1 l0 rfl (Int.add_le_add (Int.add_le_add (Int.ofNat_le.mpr A) (ztp e2)) (zmu 26 (ztp e7))) (zmo 26 (0+(a:Int))) (zmz 26 (0+(a:Int)) rfl) (zmu 26 (Int.ofNat_le.mpr e9))))) (fun e8=>(Int.ofNat_le.mp (Z1 (d1 ((Int.toNat ((0+(a:Int)) / 26):Nat):Int)) w0 l0 (zp w0 l1) (.num 26) rfl (ztq e8)))))) (fun e3=>(zf (Z1 (.leaf 0) (.sub (.num 201) l0) l0 l1 l0 rfl e3)))
theorem qCJ {a:Nat} (A:a < Int.toNat ((201:Int) - (0:Int))):(0+(a:Int)) / 26 < 2 ^ 63:=(Int.le_total 0 (201 - 0)).elim (fun e2=>(Int.not_lt.mp fun e4=>zf (Z4 (d4 (a:Int) ((Int.toNat ((201:Int) - (0:Int)):Nat):Int) ((0+(a:Int)) % 26) ((0+(a:Int)) / 26)) (zp (zp w0 l1) w1) (zp w1 (.sub (.num 201) l0)) (zp w2 (.mulL 26 w3)) (zp l0 w0) l0 w2 (.mulL 26 (zp (.num ((2:Int) ^ (63:Nat))) l1)) (.mulL 26 (zp w3 l1)) l1 l0 rfl (Int.add_le_add (Int.ofNat_le.mpr A) (ztp e2)) (zmo 26 (0+(a:Int))) (zmz 26 (0+(a:Int)) rfl) (zmu 26 e4)))) (fun e3=>(zf (Z1 (.leaf 0) (.sub (.num 201) l0) l0 l1 l0 rfl e3)))
theorem qFb {a:Nat} (A:a < Int.toNat ((201:Int) - (0:Int))):(0+(a:Int)) / 26 < (((26:Nat):Nat):Int):=(Int.le_total 0 (201 - 0)).elim (fun e2=>(Int.not_lt.mp fun e4=>zf (Z4 (d4 (a:Int) ((Int.toNat ((201:Int) - (0:Int)):Nat):Int) ((0+(a:Int)) % 26) ((0+(a:Int)) / 26)) (zp (zp w0 l1) w1) (zp w1 (.sub (.num 201) l0)) (zp w2 (.mulL 26 w3)) (zp l0 w0) l0 w2 (.mulL 26 (zp (.num 26) l1)) (.mulL 26 (zp w3 l1)) l1 l0 rfl (Int.add_le_add (Int.ofNat_le.mpr A) (ztp e2)) (zmo 26 (0+(a:Int))) (zmz 26 (0+(a:Int)) rfl) (zmu 26 e4)))) (fun e3=>(zf (Z1 (.leaf 0) (.sub (.num 201) l0) l0 l1 l0 rfl e3)))
theorem qG2 {a:Nat} :0≤(0+(a:Int)) / 26:=Int.not_lt.mp fun e1=>zf (Z4 (d3 ((0+(a:Int)) % 26) ((0+(a:Int)) / 26) (a:Int)) (zp l0 w2) (zp w0 (.mulL 26 w1)) (zp w0 l1) (.num 26) (.mulL 26 (zp w1 l1)) (.mulL 26 l0) l0 w2 l1 l0 rfl (zmp 26 (0+(a:Int))) (zmk 26 (0+(a:Int)) rfl) (zmu 26 e1) (Int.natCast_nonneg a))
theorem qAG :(0:Int) < (26:Int):=zval (.leaf 0) (a:=(zp l0 l1)) (b:=(.num 26)) rfl
theorem qEl {a:Nat} :Int.toNat ((0+(a:Int)) % 26) < 26:=(Int.le_total 0 ((0+(a:Int)) % 26)).elim (fun e2=>(Int.ofNat_le.mp (Z2 (d2 ((0+(a:Int)) % 26) ((Int.toNat ((0+(a:Int)) % 26):Nat):Int)) w1 w0 (zp w0 l1) (.num 26) (zp w1 l1) (.num 26) rfl (ztp e2) (zmk 26 (0+(a:Int)) rfl)))) (fun e3=>(Int.ofNat_le.mp (Z1 (d1 ((Int.toNat ((0+(a:Int)) % 26):Nat):Int)) w0 l0 (zp w0 l1) (.num 26) rfl (ztq e3))))
theorem qFX {a:Nat} :(0+(a:Int)) % 26 < 2 ^ 63:=Z1 (d1 ((0+(a:Int)) % 26)) (zp w0 l1) (.num 26) (zp w0 l1) (.num ((2:Int) ^ (63:Nat))) rfl (zmk 26 (0+(a:Int)) rfl)
theorem qB8 {a:Nat} :(0+(a:Int)) % 26 < (((26:Nat):Nat):Int):=Z1 (d1 ((0+(a:Int)) % 26)) (zp w0 l1) (.num 26) (zp w0 l1) (.num 26) rfl (zmk 26 (0+(a:Int)) rfl)
theorem qHj {a:Nat} :0≤(0+(a:Int)) % 26:=Z1 (d1 ((0+(a:Int)) % 26)) l0 w0 l0 w0 rfl (zmz 26 (0+(a:Int)) rfl)
theorem qEK {a:Nat} (A:a≤50):a+1≤51:=F1 (c1 a) v0 (.num 50) (pl v0 k1) (.num 51) rfl A
theorem qBZ {a:Nat} (A:1≤a∧a≤8):a < 10 ^ 9:=F1 (c1 a) v0 k8 (pl v0 k1) (.num ((10:Nat) ^ (9:Nat))) rfl A.2
theorem qAt {a:Nat} (A:a≤50):a≤100000:=F1 (c1 a) v0 (.num 50) v0 (.num 100000) rfl A
theorem qF6 :¬ (((0:Int)≤(9:Int)∧(9:Int) < (10:Int) ^ 60)∧((0:Int)≤(10:Int) ^ 60∧(10:Int) ^ 60 < (10:Int) ^ 60)∧(0:Int) < (9:Int)+(10:Int) ^ 60):=(fun e1=>(zf (Z1 (.leaf 0) (zp (.num ((10:Int) ^ (60:Nat))) l1) (.num ((10:Int) ^ (60:Nat))) l1 l0 rfl e1.2.1.2)))
theorem qDq {a:Int} (A:0≤a∧a < 5):¬ ((0≤10 ^ 60+a∧10 ^ 60+a < 10 ^ 60)∧((0:Int)≤(0:Int)∧(0:Int) < (10:Int) ^ 60)∧0 < 10 ^ 60+a+0):=(fun e1=>(zf (Z2 (d1 a) l0 w0 (zp (zp (.num ((10:Int) ^ (60:Nat))) w0) l1) (.num ((10:Int) ^ (60:Nat))) l1 l0 rfl A.1 e1.1.2)))
theorem qDF {a:Int} (A:0≤a∧a < 5):¬ ((0≤a - 5∧a - 5 < 10 ^ 60)∧((0:Int)≤(9:Int)∧(9:Int) < (10:Int) ^ 60)∧0 < a - 5+9):=(fun e1=>(zf (Z2 (d1 a) (zp w0 l1) l5 l0 (.sub w0 l5) l1 l0 rfl A.2 e1.1.1)))
theorem qG7 {a:Int} :0≤a / 13 % 5∧a / 13 % 5 < 5:=⟨(Z1 (d1 (a / 13 % 5)) l0 w0 l0 w0 rfl (zmz 5 (a / 13) rfl)),(Z1 (d1 (a / 13 % 5)) (zp w0 l1) l5 (zp w0 l1) l5 rfl (zmk 5 (a / 13) rfl))⟩
theorem qCh {a:Int} :Int.toNat (a % 13) < 13:=(Int.le_total 0 (a % 13)).elim (fun e2=>(Int.ofNat_le.mp (Z2 (d2 (a % 13) ((Int.toNat (a % 13):Nat):Int)) w1 w0 (zp w0 l1) (.num 13) (zp w1 l1) (.num 13) rfl (ztp e2) (zmk 13 a rfl)))) (fun e3=>(Int.ofNat_le.mp (Z1 (d1 ((Int.toNat (a % 13):Nat):Int)) w0 l0 (zp w0 l1) (.num 13) rfl (ztq e3))))
theorem qE9 {a:Int} :a % 13 < 2 ^ 63:=Z1 (d1 (a % 13)) (zp w0 l1) (.num 13) (zp w0 l1) (.num ((2:Int) ^ (63:Nat))) rfl (zmk 13 a rfl)
theorem qHd {a:Int} :a % 13 < (((0:Nat)+(1:Nat)+(1:Nat)+(1:Nat)+(1:Nat)+(1:Nat)+(1:Nat)+(1:Nat)+(1:Nat)+((0:Nat)+(1:Nat)+(1:Nat)+(1:Nat)+(1:Nat)+(1:Nat)):Nat):Int):=Z1 (d1 (a % 13)) (zp w0 l1) (.num 13) (zp w0 l1) (zp (zp (zp (zp (zp (zp (zp (zp (zp l0 l1) l1) l1) l1) l1) l1) l1) l1) (zp (zp (zp (zp (zp l0 l1) l1) l1) l1) l1)) rfl (zmk 13 a rfl)
theorem qHg {a:Int} :0≤a % 13:=Z1 (d1 (a % 13)) l0 w0 l0 w0 rfl (zmz 13 a rfl)
theorem qBC :(0:Int) < (13:Int):=zval (.leaf 0) (a:=(zp l0 l1)) (b:=(.num 13)) rfl
theorem qAq {a b c:Nat} (A:a≤1000) (B:b < a) (C:c≤b):c≤100000:=F3 (c3 a b c) v0 (.num 1000) (pl v1 k1) v0 v2 v1 v2 (.num 100000) rfl A B C
theorem qDG {a b c f:Int} (A:¬ a < b) (B:¬ c < f):b≤a∧f≤c:=⟨(Z1 (d2 b a) w0 w1 w0 w1 rfl (Int.not_lt.mp A)),(Z1 (d2 f c) w0 w1 w0 w1 rfl (Int.not_lt.mp B))⟩
theorem qEO {a b c f:Int} (A:a < b):¬ (c≤f∧b≤a):=(fun e1=>(zf (Z2 (d2 a b) (zp w0 l1) w1 w1 w0 l1 l0 rfl A e1.2)))
theorem qFr {a b c f:Int} (A:a < b):¬ (b≤a∧c≤f):=(fun e1=>(zf (Z2 (d2 a b) (zp w0 l1) w1 w1 w0 l1 l0 rfl A e1.1)))
theorem qAd {a b c:Nat} (A:a < min b c):a < b:=F2 (c3 a (min b c) b) (pl v0 k1) v1 v1 v2 (pl v0 k1) v2 rfl A (Nat.min_le_left b c)
theorem qAo {a b c:Nat} (A:a < min b c):a < c:=F2 (c3 a (min b c) c) (pl v0 k1) v1 v1 v2 (pl v0 k1) v2 rfl A (Nat.min_le_right b c)
theorem qAY {a b:Nat} :min a b≤a:=F1 (c2 (min a b) a) v0 v1 v0 v1 rfl (Nat.min_le_left a b)
theorem qFi {a b c f:Nat} (A:a+b≤1000) (B:c < b) (C:f≤a+c):f≤100000:=F3 (c4 a b c f) (pl v0 v1) (.num 1000) (pl v2 k1) v1 v3 (pl v0 v2) v3 (.num 100000) rfl A B C
theorem qBi {a b:Int} (A:¬ a < b):a=max a b:=Int.le_antisymm (Z1 (d2 a (max a b)) w0 w1 w0 w1 rfl (Int.le_max_left a b)) ((Int.le_total a b).elim (fun e2=>(Z2 (d3 b a (max a b)) w0 w1 w2 w0 w2 w1 rfl (Int.not_lt.mp A) (zyl e2))) (fun e3=>(Z1 (d2 a (max a b)) w1 w0 w1 w0 rfl (zyr e3))))
theorem qBq {a b:Int} (A:a < b):b=max a b:=Int.le_antisymm (Z1 (d2 b (max a b)) w0 w1 w0 w1 rfl (Int.le_max_right a b)) ((Int.le_total a b).elim (fun e2=>(Z1 (d2 b (max a b)) w1 w0 w1 w0 rfl (zyl e2))) (fun e3=>(Z2 (d3 a b (max a b)) (zp w0 l1) w1 w2 w0 w2 w1 rfl A (zyr e3))))
theorem qC8 {a b c f:Nat} (A:a≤b+min c f):a≤b+c:=F2 (c4 a b (min c f) c) v0 (pl v1 v2) v2 v3 v0 (pl v1 v3) rfl A (Nat.min_le_left c f)
theorem qBw {a b:Nat} (A:a+b≤1000):a≤100000:=F1 (c2 a b) (pl v0 v1) (.num 1000) v0 (.num 100000) rfl A
theorem qAW {a:Nat} (A:a+10 * 2≤9000):a+100 < 9900:=F1 (c1 a) (pl v0 (.mulL 10 k2)) (.num 9000) (pl (pl v0 (.num 100)) k1) (.num 9900) rfl A
theorem qAI {a:Nat} (A:a≤1000):a≤100000:=F1 (c1 a) v0 (.num 1000) v0 (.num 100000) rfl A
theorem qFj {a b:Nat} (A:a≤1000) (B:b=a):b≤100000:=F2 (c2 a b) v0 (.num 1000) v1 v0 v1 (.num 100000) rfl A (Nat.le_of_eq B)
theorem qCO {a b:Nat} (A:a≤2 * b+1):a≤2 * (b+1):=F1 (c2 a b) v0 (pl (.mulL 2 v1) k1) v0 (.mulL 2 (pl v1 k1)) rfl A
theorem qGP {a b c:Nat} (A:a≤2 * b+1) (B:c≤a+1):c≤2 * (b+1):=F2 (c3 a b c) v0 (pl (.mulL 2 v1) k1) v2 (pl v0 k1) v2 (.mulL 2 (pl v1 k1)) rfl A B
theorem qCH {a b:Int} (A:0≤a∧0≤b∧0 < a+b∧a < 10 ^ 60∧b < 10 ^ 60):0≤a∧(0:Int)≤(3:Int)∧0 < a+3∧a < 10 ^ 60∧(3:Int) < (10:Int) ^ 60:=⟨(Z1 (d1 a) l0 w0 l0 w0 rfl A.1),⟨(zval (.leaf 0) (a:=l0) (b:=l3) rfl),⟨(Z1 (d1 a) l0 w0 (zp l0 l1) (zp w0 l3) rfl A.1),⟨(Z1 (d1 a) (zp w0 l1) (.num ((10:Int) ^ (60:Nat))) (zp w0 l1) (.num ((10:Int) ^ (60:Nat))) rfl A.2.2.2.1),(zval (.leaf 0) (a:=(zp l3 l1)) (b:=(.num ((10:Int) ^ (60:Nat)))) rfl)⟩⟩⟩⟩
theorem qEr {a b c:Nat} (A:a≤200) (B:b < a) (C:c≤2 * b+1):c≤100000:=F3 (c3 a b c) (.mulL 2 v0) (.mulL 2 (.num 200)) (.mulL 2 (pl v1 k1)) (.mulL 2 v0) v2 (pl (.mulL 2 v1) k1) v2 (.num 100000) rfl (Nat.mul_le_mul_left 2 A) (Nat.mul_le_mul_left 2 B) C
theorem qEq {a:Nat} {b:Int} (A:1≤a∧a≤8) (B:b < (a:Int)):Int.toNat b < a:=(Int.le_total 0 b).elim (fun e2=>(Int.ofNat_le.mp (Z2 (d3 (a:Int) b ((Int.toNat b:Nat):Int)) (zp w1 l1) w0 w2 w1 (zp w2 l1) w0 rfl B (ztp e2)))) (fun e3=>(Int.ofNat_le.mp (Z2 (d2 (a:Int) ((Int.toNat b:Nat):Int)) l1 w0 w1 l0 (zp w1 l1) w0 rfl (Int.ofNat_le.mpr A.1) (ztq e3))))
theorem qCl {a:Int} (A:0≤a):Int.toNat (a+1)=Int.toNat a+1:=Nat.le_antisymm ((Int.le_total 0 (a+1)).elim (fun e2=>(Int.ofNat_le.mp (Z2 (d3 a ((Int.toNat (a+1):Nat):Int) ((Int.toNat a:Nat):Int)) w1 (zp w0 l1) w0 w2 w1 (zp w2 l1) rfl (ztp e2) (ztn a)))) (fun e3=>(Int.ofNat_le.mp (Z2 (d2 ((Int.toNat (a+1):Nat):Int) ((Int.toNat a:Nat):Int)) w0 l0 l0 w1 w0 (zp w1 l1) rfl (ztq e3) (Int.natCast_nonneg (Int.toNat a)))))) ((Int.le_total 0 a).elim (fun e17=>(Int.ofNat_le.mp (Z2 (d3 a ((Int.toNat a:Nat):Int) ((Int.toNat (a+1):Nat):Int)) w1 w0 (zp w0 l1) w2 (zp w1 l1) w2 rfl (ztp e17) (ztn (a+1))))) (fun e18=>(Int.ofNat_le.mp (Z3 (d3 a ((Int.toNat a:Nat):Int) ((Int.toNat (a+1):Nat):Int)) l0 w0 w1 l0 (zp w0 l1) w2 (zp w1 l1) w2 rfl A (ztq e18) (ztn (a+1))))))
theorem qFf {a b c:Nat} (A:1≤a∧a≤8) (B:b≤a+1) (C:c≤8):b+c≤100000:=F3 (c3 a b c) v0 k8 v1 (pl v0 k1) v2 k8 (pl v1 v2) (.num 100000) rfl A.2 B C
theorem qEx {a:Nat} {b:Int} (A:1≤a∧a≤8):a≤8+Int.toNat (b+1):=Int.ofNat_le.mp (Z2 (d2 (a:Int) ((Int.toNat (b+1):Nat):Int)) w0 l8 l0 w1 w0 (zp l8 w1) rfl (Int.ofNat_le.mpr A.2) (Int.natCast_nonneg (Int.toNat (b+1))))
theorem qD5 {a:Int} (A:0≤a):0≤a+1:=Z1 (d1 a) l0 w0 l0 (zp w0 l1) rfl A
theorem qBk {a:Nat} (A:1≤a∧a≤8):a≤100000:=F1 (c1 a) v0 k8 v0 (.num 100000) rfl A.2
theorem qEJ {a:Nat} {b:Int} (A:1≤a∧a≤8):min (Int.toNat b) a≤99999:=Int.ofNat_le.mp (Z2 (d2 (a:Int) ((min (Int.toNat b) a:Nat):Int)) w0 l8 w1 w0 w1 (.num 99999) rfl (Int.ofNat_le.mpr A.2) (Int.ofNat_le.mpr (Nat.min_le_right (Int.toNat b) a)))
theorem qAy {a:Int} :Int.toNat (a / 48 % 26) < 26:=(Int.le_total 0 (a / 48 % 26)).elim (fun e2=>(Int.ofNat_le.mp (Z2 (d2 (a / 48 % 26) ((Int.toNat (a / 48 % 26):Nat):Int)) w1 w0 (zp w0 l1) (.num 26) (zp w1 l1) (.num 26) rfl (ztp e2) (zmk 26 (a / 48) rfl)))) (fun e3=>(Int.ofNat_le.mp (Z1 (d1 ((Int.toNat (a / 48 % 26):Nat):Int)) w0 l0 (zp w0 l1) (.num 26) rfl (ztq e3))))
theorem qDE {a:Int} :a / 48 % 26 < 2 ^ 63:=Z1 (d1 (a / 48 % 26)) (zp w0 l1) (.num 26) (zp w0 l1) (.num ((2:Int) ^ (63:Nat))) rfl (zmk 26 (a / 48) rfl)
theorem qEh {a:Int} :a / 48 % 26 < (((26:Nat):Nat):Int):=Z1 (d1 (a / 48 % 26)) (zp w0 l1) (.num 26) (zp w0 l1) (.num 26) rfl (zmk 26 (a / 48) rfl)
theorem qD9 {a:Int} :0≤a / 48 % 26:=Z1 (d1 (a / 48 % 26)) l0 w0 l0 w0 rfl (zmz 26 (a / 48) rfl)
theorem qEX :(0:Int) < (48:Int):=zval (.leaf 0) (a:=(zp l0 l1)) (b:=(.num 48)) rfl
theorem qHH {a:Nat} (A:1≤a∧a≤8):0 < (a:Int):=Z1 (d1 (a:Int)) l1 w0 (zp l0 l1) w0 rfl (Int.ofNat_le.mpr A.1)
theorem qB3 {a:Nat} (A:1≤a∧a≤8):(a:Int) < 2 ^ 63:=Z1 (d1 (a:Int)) w0 l8 (zp w0 l1) (.num ((2:Int) ^ (63:Nat))) rfl (Int.ofNat_le.mpr A.2)
theorem qBJ :(0:Int) < (6:Int):=zval (.leaf 0) (a:=(zp l0 l1)) (b:=l6) rfl
theorem qBU {a b:Nat} (A:a≤2 * b):a≤2 * b+1:=F1 (c2 a b) v0 (.mulL 2 v1) v0 (pl (.mulL 2 v1) k1) rfl A
theorem qCT {a b c:Nat} (A:a≤2 * b) (B:c≤a+1):c≤2 * b+1:=F2 (c3 a b c) v0 (.mulL 2 v1) v2 (pl v0 k1) v2 (pl (.mulL 2 v1) k1) rfl A B
theorem qCR {a b c:Nat} (A:a≤200) (B:b < a) (C:c≤2 * b):c≤100000:=F3 (c3 a b c) (.mulL 2 v0) (.mulL 2 (.num 200)) (.mulL 2 (pl v1 k1)) (.mulL 2 v0) v2 (.mulL 2 v1) v2 (.num 100000) rfl (Nat.mul_le_mul_left 2 A) (Nat.mul_le_mul_left 2 B) C
theorem qFL {a:Nat} {b:Int} :0≤(b % 1000000007+7919 * (a:Int)+11) * 48271 % 2147483647∧(b % 1000000007+7919 * (a:Int)+11) * 48271 % 2147483647 < 2147483647:=⟨(Z1 (d1 ((b % 1000000007+7919 * (a:Int)+11) * 48271 % 2147483647)) l0 w0 l0 w0 rfl (zmz 2147483647 ((b % 1000000007+7919 * (a:Int)+11) * 48271) rfl)),(Z1 (d1 ((b % 1000000007+7919 * (a:Int)+11) * 48271 % 2147483647)) (zp w0 l1) (.num 2147483647) (zp w0 l1) (.num 2147483647) rfl (zmk 2147483647 ((b % 1000000007+7919 * (a:Int)+11) * 48271) rfl))⟩
theorem qHQ {a b:Nat} :min a b≤b:=F1 (c2 (min a b) b) v0 v1 v0 v1 rfl (Nat.min_le_right a b)
theorem qHk {a:Nat} (A:a < 26):97≤97+a∧97+a≤122:=⟨(nval (c1 a) (a:=(.num 97)) (b:=(pl (.num 97) v0)) rfl),(F1 (c1 a) (pl v0 k1) (.num 26) (pl (.num 97) v0) (.num 122) rfl A)⟩
theorem qDH {a b:Nat} (A:a < b) (B:1≤b∧b≤8):min a b+(b - (a+1)+1)≤8:=(Nat.le_total (a+1) b).elim (fun e10=>(F3 (c4 a b (b - (a+1)) (min a b)) v1 k8 (pl v2 (pl v0 k1)) v1 v3 v0 (pl v3 (pl v2 k1)) k8 rfl B.2 (nsc e10) (Nat.min_le_left a b))) (fun e11=>(F4 (c4 a b (b - (a+1)) (min a b)) (pl v0 k1) v1 v1 k8 v2 k0 v3 v0 (pl v3 (pl v2 k1)) k8 rfl A B.2 (nsd e11) (Nat.min_le_left a b)))
theorem qFu {a b:Nat} :1≤min a b+(b - (a+1)+1):=nval (c2 (min a b) (b - (a+1))) (a:=k1) (b:=(pl v0 (pl v1 k1))) rfl
theorem qCs {a:Nat} {b:Int} (A:0≤b) (B:a≤Int.toNat (b - 0)):(a:Int)≤b:=(Int.le_total 0 (b - 0)).elim (fun e2=>(Z2 (d3 b (a:Int) ((Int.toNat (b - 0):Nat):Int)) w1 w2 w2 (.sub w0 l0) w1 w0 rfl (Int.ofNat_le.mpr B) (ztp e2))) (fun e3=>(Z3 (d3 b (a:Int) ((Int.toNat (b - 0):Nat):Int)) l0 w0 w1 w2 w2 l0 w1 w0 rfl A (Int.ofNat_le.mpr B) (ztq e3)))
theorem qB6 {a b c:Nat} (A:a≤b) (B:c≤a+1):c≤b+1:=F2 (c3 a b c) v0 v1 v2 (pl v0 k1) v2 (pl v1 k1) rfl A B
theorem qE8 {a b:Nat} {c:Int} (A:c≤200) (B:a < Int.toNat (c - 0)) (C:b≤a):b≤100000:=(Int.le_total 0 (c - 0)).elim (fun e2=>(Int.ofNat_le.mp (Z4 (d4 c (a:Int) ((Int.toNat (c - 0):Nat):Int) (b:Int)) w0 (.num 200) (zp w1 l1) w2 w3 w1 w2 (.sub w0 l0) w3 (.num 100000) rfl A (Int.ofNat_le.mpr B) (Int.ofNat_le.mpr C) (ztp e2)))) (fun e3=>(Int.ofNat_le.mp (Z3 (d3 (a:Int) ((Int.toNat (c - 0):Nat):Int) (b:Int)) (zp w0 l1) w1 w2 w0 w1 l0 w2 (.num 100000) rfl (Int.ofNat_le.mpr B) (Int.ofNat_le.mpr C) (ztq e3))))
theorem qCL {a b:Int} (A:0≤a∧a < 10 ^ 60) (B:0≤b∧b < 10 ^ 60) (C:¬ (a=0∧b=0)):0≤a∧0≤b∧0 < a+b∧a < 10 ^ 60∧b < 10 ^ 60:=⟨(Z1 (d1 a) l0 w0 l0 w0 rfl A.1),⟨(Z1 (d1 b) l0 w0 l0 w0 rfl B.1),⟨((Decidable.not_and_iff_not_or_not.mp C).elim (fun e2=>((Int.lt_or_gt_of_ne e2).elim (fun e5=>(Z3 (d2 a b) (.mulL 2 l0) (.mulL 2 w0) l0 w1 (zp w0 l1) l0 (zp l0 l1) (zp w0 w1) rfl (zmu 2 A.1) B.1 e5)) (fun e6=>(Z2 (d2 a b) l0 w1 (zp l0 l1) w0 (zp l0 l1) (zp w0 w1) rfl B.1 e6)))) (fun e3=>((Int.lt_or_gt_of_ne e3).elim (fun e8=>(Z3 (d2 a b) l0 w0 (.mulL 2 l0) (.mulL 2 w1) (zp w1 l1) l0 (zp l0 l1) (zp w0 w1) rfl A.1 (zmu 2 B.1) e8)) (fun e9=>(Z2 (d2 a b) l0 w0 (zp l0 l1) w1 (zp l0 l1) (zp w0 w1) rfl A.1 e9))))),⟨(Z1 (d1 a) (zp w0 l1) (.num ((10:Int) ^ (60:Nat))) (zp w0 l1) (.num ((10:Int) ^ (60:Nat))) rfl A.2),(Z1 (d1 b) (zp w0 l1) (.num ((10:Int) ^ (60:Nat))) (zp w0 l1) (.num ((10:Int) ^ (60:Nat))) rfl B.2)⟩⟩⟩⟩
theorem qEL {a:Int} (A:a≤200):a < 2 ^ 62:=Z1 (d1 a) w0 (.num 200) (zp w0 l1) (.num ((2:Int) ^ (62:Nat))) rfl A
theorem qFR {a:Int} (A:0≤a):(-2 ^ 62)≤a:=Z1 (d1 a) l0 w0 (.neg (.num ((2:Int) ^ (62:Nat)))) w0 rfl A
theorem qBj :(0:Int) < (2:Int) ^ 62:=zval (.leaf 0) (a:=(zp l0 l1)) (b:=(.num ((2:Int) ^ (62:Nat)))) rfl
theorem qBu :(-(2:Int) ^ 62)≤(0:Int):=zval (.leaf 0) (a:=(.neg (.num ((2:Int) ^ (62:Nat))))) (b:=l0) rfl
theorem qGe {a:Int} :0≤10 ^ 60 - 1 - a / 5 % 1000∧10 ^ 60 - 1 - a / 5 % 1000 < 10 ^ 60:=⟨(Z1 (d1 (a / 5 % 1000)) (zp w0 l1) (.num 1000) l0 (.sub (.sub (.num ((10:Int) ^ (60:Nat))) l1) w0) rfl (zmk 1000 (a / 5) rfl)),(Z1 (d1 (a / 5 % 1000)) l0 w0 (zp (.sub (.sub (.num ((10:Int) ^ (60:Nat))) l1) w0) l1) (.num ((10:Int) ^ (60:Nat))) rfl (zmz 1000 (a / 5) rfl))⟩
theorem qE7 {a:Int} :0≤a / 5 % 1000∧a / 5 % 1000 < 10 ^ 60:=⟨(Z1 (d1 (a / 5 % 1000)) l0 w0 l0 w0 rfl (zmz 1000 (a / 5) rfl)),(Z1 (d1 (a / 5 % 1000)) (zp w0 l1) (.num 1000) (zp w0 l1) (.num ((10:Int) ^ (60:Nat))) rfl (zmk 1000 (a / 5) rfl))⟩
theorem qFB {a:Int} (A:a % 5 < 2):a % 5=0∨a % 5=1:=(zor (Z1 (d1 (a % 5)) l0 w0 l0 w0 rfl (zmz 5 a rfl))).elim (fun e2=>.inl e2.symm) (fun e1=>.inr (Int.le_antisymm (Z1 (d1 (a % 5)) (zp w0 l1) l2 w0 l1 rfl A) e1))
theorem qFh :(0:Int) < (2147483647:Int):=zval (.leaf 0) (a:=(zp l0 l1)) (b:=(.num 2147483647)) rfl
theorem qFW :(0:Int) < (1000000007:Int):=zval (.leaf 0) (a:=(zp l0 l1)) (b:=(.num 1000000007)) rfl
theorem qBM {a:Nat} {b:Int} (A:a=Int.toNat (1+b % 8)):a≤1000:=(Int.le_total 0 (1+b % 8)).elim (fun e2=>(Int.ofNat_le.mp (Z3 (d3 (a:Int) ((Int.toNat (1+b % 8):Nat):Int) (b % 8)) w0 w1 w1 (zp l1 w2) (zp w2 l1) l8 w0 (.num 1000) rfl (Int.ofNat_le.mpr (Nat.le_of_eq A)) (ztp e2) (zmk 8 b rfl)))) (fun e3=>(Int.ofNat_le.mp (Z2 (d2 (a:Int) ((Int.toNat (1+b % 8):Nat):Int)) w0 w1 w1 l0 w0 (.num 1000) rfl (Int.ofNat_le.mpr (Nat.le_of_eq A)) (ztq e3))))
theorem qHL {a:Nat} {b:Int} (A:a=Int.toNat (1+b % 8)) (B:b / 10400 % (a:Int) < (a:Int)):b / 10400 % (a:Int) < 9223372036854775808:=(Int.le_total 0 (1+b % 8)).elim (fun e2=>(Z4 (d4 (a:Int) ((Int.toNat (1+b % 8):Nat):Int) (b / 10400 % (a:Int)) (b % 8)) w0 w1 (zp w2 l1) w0 w1 (zp l1 w3) (zp w3 l1) l8 (zp w2 l1) (.num 9223372036854775808) rfl (Int.ofNat_le.mpr (Nat.le_of_eq A)) B (ztp e2) (zmk 8 b rfl))) (fun e3=>(Z3 (d3 (a:Int) ((Int.toNat (1+b % 8):Nat):Int) (b / 10400 % (a:Int))) w0 w1 (zp w2 l1) w0 w1 l0 (zp w2 l1) (.num 9223372036854775808) rfl (Int.ofNat_le.mpr (Nat.le_of_eq A)) B (ztq e3)))
theorem qDM {a:Nat} {b:Int} (A:a=Int.toNat (1+b % 8)):0 < a:=Int.ofNat_le.mp (Z3 (d3 (a:Int) ((Int.toNat (1+b % 8):Nat):Int) (b % 8)) w1 w0 l0 w2 (zp l1 w2) w1 (zp l0 l1) w0 rfl (Int.ofNat_le.mpr (Nat.le_of_eq A.symm)) (zmz 8 b rfl) (ztn (1+b % 8)))
theorem qFw {a:Nat} {b:Int} (A:a=Int.toNat (1+b % 8)):(a:Int) < 9223372036854775808:=(Int.le_total 0 (1+b % 8)).elim (fun e2=>(Z3 (d3 (a:Int) ((Int.toNat (1+b % 8):Nat):Int) (b % 8)) w0 w1 w1 (zp l1 w2) (zp w2 l1) l8 (zp w0 l1) (.num 9223372036854775808) rfl (Int.ofNat_le.mpr (Nat.le_of_eq A)) (ztp e2) (zmk 8 b rfl))) (fun e3=>(Z2 (d2 (a:Int) ((Int.toNat (1+b % 8):Nat):Int)) w0 w1 w1 l0 (zp w0 l1) (.num 9223372036854775808) rfl (Int.ofNat_le.mpr (Nat.le_of_eq A)) (ztq e3)))
theorem qEn :(0:Int) < (10400:Int):=zval (.leaf 0) (a:=(zp l0 l1)) (b:=(.num 10400)) rfl
theorem qFs {a:Int} :Int.toNat (a / 83200 % 26) < 26:=(Int.le_total 0 (a / 83200 % 26)).elim (fun e2=>(Int.ofNat_le.mp (Z2 (d2 (a / 83200 % 26) ((Int.toNat (a / 83200 % 26):Nat):Int)) w1 w0 (zp w0 l1) (.num 26) (zp w1 l1) (.num 26) rfl (ztp e2) (zmk 26 (a / 83200) rfl)))) (fun e3=>(Int.ofNat_le.mp (Z1 (d1 ((Int.toNat (a / 83200 % 26):Nat):Int)) w0 l0 (zp w0 l1) (.num 26) rfl (ztq e3))))
theorem qFP {a:Int} :a / 83200 % 26 < 2 ^ 63:=Z1 (d1 (a / 83200 % 26)) (zp w0 l1) (.num 26) (zp w0 l1) (.num ((2:Int) ^ (63:Nat))) rfl (zmk 26 (a / 83200) rfl)
theorem qD3 {a:Int} :a / 83200 % 26 < (((26:Nat):Nat):Int):=Z1 (d1 (a / 83200 % 26)) (zp w0 l1) (.num 26) (zp w0 l1) (.num 26) rfl (zmk 26 (a / 83200) rfl)
theorem qHX {a:Int} :0≤a / 83200 % 26:=Z1 (d1 (a / 83200 % 26)) l0 w0 l0 w0 rfl (zmz 26 (a / 83200) rfl)
theorem qHV :(0:Int) < (83200:Int):=zval (.leaf 0) (a:=(zp l0 l1)) (b:=(.num 83200)) rfl
theorem qDJ :(0:Int) < (5200:Int):=zval (.leaf 0) (a:=(zp l0 l1)) (b:=(.num 5200)) rfl
theorem qGi {a:Nat} {b:Int} :Int.toNat ((b / 8+(0+(a:Int)) * (1+b / 208 % 25)) % 26) < 26:=(Int.le_total 0 ((b / 8+(0+(a:Int)) * (1+b / 208 % 25)) % 26)).elim (fun e2=>(Int.ofNat_le.mp (Z2 (d2 ((b / 8+(0+(a:Int)) * (1+b / 208 % 25)) % 26) ((Int.toNat ((b / 8+(0+(a:Int)) * (1+b / 208 % 25)) % 26):Nat):Int)) w1 w0 (zp w0 l1) (.num 26) (zp w1 l1) (.num 26) rfl (ztp e2) (zmk 26 (b / 8+(0+(a:Int)) * (1+b / 208 % 25)) rfl)))) (fun e3=>(Int.ofNat_le.mp (Z1 (d1 ((Int.toNat ((b / 8+(0+(a:Int)) * (1+b / 208 % 25)) % 26):Nat):Int)) w0 l0 (zp w0 l1) (.num 26) rfl (ztq e3))))
theorem qGc {a:Nat} {b:Int} :(b / 8+(0+(a:Int)) * (1+b / 208 % 25)) % 26 < 2 ^ 63:=Z1 (d1 ((b / 8+(0+(a:Int)) * (1+b / 208 % 25)) % 26)) (zp w0 l1) (.num 26) (zp w0 l1) (.num ((2:Int) ^ (63:Nat))) rfl (zmk 26 (b / 8+(0+(a:Int)) * (1+b / 208 % 25)) rfl)
theorem qGj {a:Nat} {b:Int} :(b / 8+(0+(a:Int)) * (1+b / 208 % 25)) % 26 < (((26:Nat):Nat):Int):=Z1 (d1 ((b / 8+(0+(a:Int)) * (1+b / 208 % 25)) % 26)) (zp w0 l1) (.num 26) (zp w0 l1) (.num 26) rfl (zmk 26 (b / 8+(0+(a:Int)) * (1+b / 208 % 25)) rfl)
theorem qCb {a:Nat} {b:Int} :0≤(b / 8+(0+(a:Int)) * (1+b / 208 % 25)) % 26:=Z1 (d1 ((b / 8+(0+(a:Int)) * (1+b / 208 % 25)) % 26)) l0 w0 l0 w0 rfl (zmz 26 (b / 8+(0+(a:Int)) * (1+b / 208 % 25)) rfl)
theorem qDU {a:Int} :Int.toNat (1+a % 8 - 0)≤100000:=(Int.le_total 0 (1+a % 8 - 0)).elim (fun e2=>(Int.ofNat_le.mp (Z2 (d2 (a % 8) ((Int.toNat (1+a % 8 - 0):Nat):Int)) w1 (.sub (zp l1 w0) l0) (zp w0 l1) l8 w1 (.num 100000) rfl (ztp e2) (zmk 8 a rfl)))) (fun e3=>(Int.ofNat_le.mp (Z1 (d1 ((Int.toNat (1+a % 8 - 0):Nat):Int)) w0 l0 w0 (.num 100000) rfl (ztq e3))))
theorem qEi {a:Int} :1+a % 8 < 2 ^ 62:=Z1 (d1 (a % 8)) (zp w0 l1) l8 (zp (zp l1 w0) l1) (.num ((2:Int) ^ (62:Nat))) rfl (zmk 8 a rfl)
theorem qEp {a:Int} :(-2 ^ 62)≤1+a % 8:=Z1 (d1 (a % 8)) l0 w0 (.neg (.num ((2:Int) ^ (62:Nat)))) (zp l1 w0) rfl (zmz 8 a rfl)
theorem qFv :(0:Int) < (25:Int):=zval (.leaf 0) (a:=(zp l0 l1)) (b:=(.num 25)) rfl
theorem qDz :(0:Int) < (208:Int):=zval (.leaf 0) (a:=(zp l0 l1)) (b:=(.num 208)) rfl
theorem qBH :(0:Int) < (1000:Int):=zval (.leaf 0) (a:=(zp l0 l1)) (b:=(.num 1000)) rfl
theorem qC9 :(0:Int) < (10:Int) ^ 60:=zval (.leaf 0) (a:=(zp l0 l1)) (b:=(.num ((10:Int) ^ (60:Nat)))) rfl
theorem qAv {a b:Nat} (A:a < b):a < b+2:=F1 (c2 a b) (pl v0 k1) v1 (pl v0 k1) (pl v1 k2) rfl A
theorem qBf {a b:Nat} (A:a < b):¬ a=b+1:=(fun e1=>(nf (F2 (c2 a b) (pl v0 k1) v1 (pl v1 k1) v0 k1 k0 rfl A (Nat.le_of_eq e1.symm))))
theorem qB2 {a b:Nat} (A:a≤50) (B:b≤200):a+b≤1000:=F2 (c2 a b) v0 (.num 50) v1 (.num 200) (pl v0 v1) (.num 1000) rfl A B
theorem qHR {a b:Nat} (A:a % 26=b % 26∧a / 26=b / 26):a=b:=Nat.le_antisymm (Nat.le_of_not_lt fun e1=>nf (F4 (c6 (a % 26) (b % 26) (a / 26) (b / 26) a b) (pl v0 (.mulL 26 v2)) (pl v1 (.mulL 26 v3)) v4 (pl v0 (.mulL 26 v2)) (pl v1 (.mulL 26 v3)) v5 (pl v5 k1) v4 k1 k0 rfl (Nat.add_le_add (Nat.le_of_eq A.1) (Nat.mul_le_mul_left 26 (Nat.le_of_eq A.2))) (nmp 26 a) (nmo 26 b) e1)) (Nat.le_of_not_lt fun e2=>nf (F4 (c6 (a % 26) (b % 26) (a / 26) (b / 26) a b) (pl v1 (.mulL 26 v3)) (pl v0 (.mulL 26 v2)) (pl v0 (.mulL 26 v2)) v4 v5 (pl v1 (.mulL 26 v3)) (pl v4 k1) v5 k1 k0 rfl (Nat.add_le_add (Nat.le_of_eq A.1.symm) (Nat.mul_le_mul_left 26 (Nat.le_of_eq A.2.symm))) (nmo 26 a) (nmp 26 b) e2))
theorem qCS {a b:Int} (A:0≤a∧0≤b∧a < 10 ^ 60∧b < 10 ^ 60) (B:¬ (a=0∧b=0)):0 < a+b:=(Decidable.not_and_iff_not_or_not.mp B).elim (fun e2=>((Int.lt_or_gt_of_ne e2).elim (fun e5=>(Z3 (d2 a b) (.mulL 2 l0) (.mulL 2 w0) l0 w1 (zp w0 l1) l0 (zp l0 l1) (zp w0 w1) rfl (zmu 2 A.1) A.2.1 e5)) (fun e6=>(Z2 (d2 a b) l0 w1 (zp l0 l1) w0 (zp l0 l1) (zp w0 w1) rfl A.2.1 e6)))) (fun e3=>((Int.lt_or_gt_of_ne e3).elim (fun e8=>(Z3 (d2 a b) l0 w0 (.mulL 2 l0) (.mulL 2 w1) (zp w1 l1) l0 (zp l0 l1) (zp w0 w1) rfl A.1 (zmu 2 A.2.1) e8)) (fun e9=>(Z2 (d2 a b) l0 w0 (zp l0 l1) w1 (zp l0 l1) (zp w0 w1) rfl A.1 e9))))
theorem qFk {a b c f:Int} (A:0≤a∧0≤b∧a < 10 ^ 60∧b < 10 ^ 60) (B:0≤c∧0≤f∧c < 10 ^ 60∧f < 10 ^ 60) (C:0 < a+b∨0 < c+f):0≤max a c∧0≤max b f∧0 < max a c+max b f∧max a c < 10 ^ 60∧max b f < 10 ^ 60:=⟨(Z2 (d2 a (max a c)) l0 w0 w0 w1 l0 w1 rfl A.1 (Int.le_max_left a c)),⟨(Z2 (d2 b (max b f)) l0 w0 w0 w1 l0 w1 rfl A.2.1 (Int.le_max_left b f)),⟨(C.elim (fun e2=>(Z3 (d4 a b (max a c) (max b f)) (zp l0 l1) (zp w0 w1) w0 w2 w1 w3 (zp l0 l1) (zp w2 w3) rfl e2 (Int.le_max_left a c) (Int.le_max_left b f))) (fun e3=>(Z3 (d4 c f (max a c) (max b f)) (zp l0 l1) (zp w0 w1) w0 w2 w1 w3 (zp l0 l1) (zp w2 w3) rfl e3 (Int.le_max_right a c) (Int.le_max_right b f)))),⟨((Int.le_total a c).elim (fun e69=>(Z2 (d2 c (max a c)) (zp w0 l1) (.num ((10:Int) ^ (60:Nat))) w1 w0 (zp w1 l1) (.num ((10:Int) ^ (60:Nat))) rfl B.2.2.1 (zyl e69))) (fun e70=>(Z2 (d2 a (max a c)) (zp w0 l1) (.num ((10:Int) ^ (60:Nat))) w1 w0 (zp w1 l1) (.num ((10:Int) ^ (60:Nat))) rfl A.2.2.1 (zyr e70)))),((Int.le_total b f).elim (fun e80=>(Z2 (d2 f (max b f)) (zp w0 l1) (.num ((10:Int) ^ (60:Nat))) w1 w0 (zp w1 l1) (.num ((10:Int) ^ (60:Nat))) rfl B.2.2.2 (zyl e80))) (fun e81=>(Z2 (d2 b (max b f)) (zp w0 l1) (.num ((10:Int) ^ (60:Nat))) w1 w0 (zp w1 l1) (.num ((10:Int) ^ (60:Nat))) rfl A.2.2.2 (zyr e81))))⟩⟩⟩⟩
theorem qCE {a b:Int} (A:0 < a+b):¬ (a≤0∧b≤0):=(fun e1=>(zf (Z3 (d2 a b) (zp l0 l1) (zp w0 w1) w0 l0 w1 l0 l1 l0 rfl A e1.1 e1.2)))
theorem qFS {a b c f:Int} (A:0≤a∧0≤b∧0≤c∧0≤f∧0 < c+f):b≤b+f:=Z1 (d2 b f) l0 w1 w0 (zp w0 w1) rfl A.2.2.2.1
theorem qCB {a b c f:Int} (A:0≤a∧0≤b∧0≤c∧0≤f∧0 < c+f):a≤a+c:=Z1 (d2 a c) l0 w1 w0 (zp w0 w1) rfl A.2.2.1
theorem qEY {a b c f:Int} (A:0≤a∧0≤b∧0≤c∧0≤f∧0 < c+f):¬ (a+c=0∧b+f=0):=(fun e1=>(zf (Z4 (d4 a b c f) (zp l0 l0) (zp w0 w1) (zp l0 l1) (zp w2 w3) (zp w0 w2) l0 (zp w1 w3) l0 l1 l0 rfl (Int.add_le_add A.1 A.2.1) A.2.2.2.2 (Int.le_of_eq e1.1) (Int.le_of_eq e1.2))))
theorem qDT {a b c:Int} :a+(b+c)=b+(a+c):=Int.le_antisymm (zval (d3 a b c) (a:=(zp w0 (zp w1 w2))) (b:=(zp w1 (zp w0 w2))) rfl) (zval (d3 b a c) (a:=(zp w0 (zp w1 w2))) (b:=(zp w1 (zp w0 w2))) rfl)
theorem qHe {a b:Nat} (A:a≤b - 1) (B:1≤b):a+1≤b:=(Nat.le_total 1 b).elim (fun e2=>(F2 (c3 a (b - 1) b) v0 v1 (pl v1 k1) v2 (pl v0 k1) v2 rfl A (nsc e2))) (fun e3=>(F3 (c3 a (b - 1) b) v0 v1 k1 v2 v1 k0 (pl v0 k1) v2 rfl A B (nsd e3)))
theorem qFJ {a:Nat} {b:Int} (A:a=Int.toNat (1+b % 8)):1≤a∧a≤8:=⟨(Int.ofNat_le.mp (Z3 (d3 (a:Int) ((Int.toNat (1+b % 8):Nat):Int) (b % 8)) w1 w0 l0 w2 (zp l1 w2) w1 l1 w0 rfl (Int.ofNat_le.mpr (Nat.le_of_eq A.symm)) (zmz 8 b rfl) (ztn (1+b % 8)))),((Int.le_total 0 (1+b % 8)).elim (fun e2=>(Int.ofNat_le.mp (Z3 (d3 (a:Int) ((Int.toNat (1+b % 8):Nat):Int) (b % 8)) w0 w1 w1 (zp l1 w2) (zp w2 l1) l8 w0 l8 rfl (Int.ofNat_le.mpr (Nat.le_of_eq A)) (ztp e2) (zmk 8 b rfl)))) (fun e3=>(Int.ofNat_le.mp (Z2 (d2 (a:Int) ((Int.toNat (1+b % 8):Nat):Int)) w0 w1 w1 l0 w0 l8 rfl (Int.ofNat_le.mpr (Nat.le_of_eq A)) (ztq e3)))))⟩
theorem qEw {a:Int} :97≤97+Int.toNat (a / 83200 % 26)∧97+Int.toNat (a / 83200 % 26)≤122:=⟨(Int.ofNat_le.mp (Z1 (d1 ((Int.toNat (a / 83200 % 26):Nat):Int)) l0 w0 (.num 97) (zp (.num 97) w0) rfl (Int.natCast_nonneg (Int.toNat (a / 83200 % 26))))),((Int.le_total 0 (a / 83200 % 26)).elim (fun e2=>(Int.ofNat_le.mp (Z2 (d2 (a / 83200 % 26) ((Int.toNat (a / 83200 % 26):Nat):Int)) w1 w0 (zp w0 l1) (.num 26) (zp (.num 97) w1) (.num 122) rfl (ztp e2) (zmk 26 (a / 83200) rfl)))) (fun e3=>(Int.ofNat_le.mp (Z1 (d1 ((Int.toNat (a / 83200 % 26):Nat):Int)) w0 l0 (zp (.num 97) w0) (.num 122) rfl (ztq e3)))))⟩
theorem qE6 {a:Nat} {b:Int} :97≤97+Int.toNat ((b / 8+(0+(a:Int)) * (1+b / 208 % 25)) % 26)∧97+Int.toNat ((b / 8+(0+(a:Int)) * (1+b / 208 % 25)) % 26)≤122:=⟨(Int.ofNat_le.mp (Z1 (d1 ((Int.toNat ((b / 8+(0+(a:Int)) * (1+b / 208 % 25)) % 26):Nat):Int)) l0 w0 (.num 97) (zp (.num 97) w0) rfl (Int.natCast_nonneg (Int.toNat ((b / 8+(0+(a:Int)) * (1+b / 208 % 25)) % 26))))),((Int.le_total 0 ((b / 8+(0+(a:Int)) * (1+b / 208 % 25)) % 26)).elim (fun e2=>(Int.ofNat_le.mp (Z2 (d2 ((b / 8+(0+(a:Int)) * (1+b / 208 % 25)) % 26) ((Int.toNat ((b / 8+(0+(a:Int)) * (1+b / 208 % 25)) % 26):Nat):Int)) w1 w0 (zp w0 l1) (.num 26) (zp (.num 97) w1) (.num 122) rfl (ztp e2) (zmk 26 (b / 8+(0+(a:Int)) * (1+b / 208 % 25)) rfl)))) (fun e3=>(Int.ofNat_le.mp (Z1 (d1 ((Int.toNat ((b / 8+(0+(a:Int)) * (1+b / 208 % 25)) % 26):Nat):Int)) w0 l0 (zp (.num 97) w0) (.num 122) rfl (ztq e3)))))⟩
theorem qHr {a b:Nat} (A:a≤900) (B:b≤a+1):b≤1000:=F2 (c2 a b) v0 (.num 900) v1 (pl v0 k1) v1 (.num 1000) rfl A B
theorem qHZ {a:Nat} (A:a≤900):a≤999:=F1 (c1 a) v0 (.num 900) v0 (.num 999) rfl A
theorem qGN {a b c f:Nat} (A:a≤1000) (B:b=a) (C:c < b) (D:f≤c):f≤100000:=F4 (c4 a b c f) v0 (.num 1000) v1 v0 (pl v2 k1) v1 v3 v2 v3 (.num 100000) rfl A (Nat.le_of_eq B) C D
theorem qCc {a b c f:Nat} (A:a+b≤1000) (B:c≤f) (C:f=a+b):c≤1000:=F3 (c4 a b c f) (pl v0 v1) (.num 1000) v2 v3 v3 (pl v0 v1) v2 (.num 1000) rfl A B (Nat.le_of_eq C)
theorem qEW {a b c f:Nat} (A:a+b≤1000) (B:c≤f) (C:f=a+b):c≤100000:=F3 (c4 a b c f) (pl v0 v1) (.num 1000) v2 v3 v3 (pl v0 v1) v2 (.num 100000) rfl A B (Nat.le_of_eq C)
theorem qGt {a b c:Nat} (A:a+b≤1000) (B:c=a+b):c+1≤1001:=F2 (c3 a b c) (pl v0 v1) (.num 1000) v2 (pl v0 v1) (pl v2 k1) (.num 1001) rfl A (Nat.le_of_eq B)
theorem qFC {a b:Nat} (A:a+b≤1000):a+b≤100000:=F1 (c2 a b) (pl v0 v1) (.num 1000) (pl v0 v1) (.num 100000) rfl A
theorem qGm {a b:Nat} (A:a+b≤1000):b≤100000:=F1 (c2 a b) (pl v0 v1) (.num 1000) v1 (.num 100000) rfl A
theorem qFK {a b c f:Nat} (A:a≤b+c) (B:b≤f+1):a≤f+(c+1):=F2 (c4 a b c f) v0 (pl v1 v2) v1 (pl v3 k1) v0 (pl v3 (pl v2 k1)) rfl A B
theorem qCv {a b c:Nat} (A:a≤b) (B:b=c):a≤c:=F2 (c3 a b c) v0 v1 v1 v2 v0 v2 rfl A (Nat.le_of_eq B)
theorem qCj {a:Nat} (A:97≤a∧a≤122):a < 1114112:=F1 (c1 a) v0 (.num 122) (pl v0 k1) (.num 1114112) rfl A.2
theorem qGs {a:Nat} (A:¬ 200 < (a:Int)):a≤200:=Int.ofNat_le.mp (Z1 (d1 (a:Int)) w0 (.num 200) w0 (.num 200) rfl (Int.not_lt.mp A))
theorem qGL {a:Nat} (A:200 < (a:Int)):¬ a≤200:=Nat.not_le_of_gt (Int.ofNat_le.mp (Z1 (d1 (a:Int)) (zp (.num 200) l1) w0 (zp (.num 200) l1) w0 rfl A))
theorem qFe {a:Nat} (A:a≤100000):(a:Int) < 2 ^ 63:=Z1 (d1 (a:Int)) w0 (.num 100000) (zp w0 l1) (.num ((2:Int) ^ (63:Nat))) rfl (Int.ofNat_le.mpr A)
theorem qG8 {a:Nat} (A:1≤(a:Int)):(a:Int)≤8↔1≤a∧a≤8:=⟨fun e1=>⟨(Int.ofNat_le.mp (Z1 (d1 (a:Int)) l1 w0 l1 w0 rfl A)),(Int.ofNat_le.mp (Z1 (d1 (a:Int)) w0 l8 w0 l8 rfl e1))⟩,fun e2=>(Z1 (d1 (a:Int)) w0 l8 w0 l8 rfl (Int.ofNat_le.mpr e2.2))⟩
theorem qFg {a:Nat} (A:a < 10 ^ 9):(a:Int) < 2 ^ 63:=Z1 (d1 (a:Int)) (zp w0 l1) (.num (((10:Nat) ^ (9:Nat)):Nat)) (zp w0 l1) (.num ((2:Int) ^ (63:Nat))) rfl (Int.ofNat_le.mpr A)
theorem qFY {a:Nat} :97≤a∧a < 97+26↔97≤a∧a≤122:=⟨fun e1=>⟨(F1 (c1 a) (.num 97) v0 (.num 97) v0 rfl e1.1),(F1 (c1 a) (pl v0 k1) (pl (.num 97) (.num 26)) v0 (.num 122) rfl e1.2)⟩,fun e2=>⟨(F1 (c1 a) (.num 97) v0 (.num 97) v0 rfl e2.1),(F1 (c1 a) v0 (.num 122) (pl v0 k1) (pl (.num 97) (.num 26)) rfl e2.2)⟩⟩
end Mine
namespace Mine
open PySem
noncomputable def unS:Value→Str
 | .str x _=>x
 | _=>⟨#[]⟩
noncomputable def byText (w:World):Bool:=w.params.followText "set-order"
structure SetIn (w:World) (es:Array (Int×Value)) (t:SetTable) (ss:List Str):Prop where
 txts:∀ e∈es.toList,∃ x k,e=(hashStr w x,Value.str x k)
 perm:(es.toList.map fun e=>unS e.2).Perm ss
 small:es.size < scanBound
 fits:t.fits es.size=true
 led:t.led = !byText w
 plain:es.size=0∨t.plain=false
noncomputable def SetS (w:World) (h:Heap) (a:Addr) (ss:List Str):Prop :=
 ∃ o es ep t,h.get? a=some o∧o.ExactSet∧o.data=.set es ep t∧SetIn w es t ss
theorem SetS.at {w:World} {h h':Heap} {a:Addr} {ss:List Str} (x:SetS w h a ss) (e:∀ o,h.get? a=some o→h'.get? a=some o):SetS w h' a ss :=
 let ⟨o,es,ep,t,ho,r⟩:=x;⟨o,es,ep,t,e _ ho,r⟩
noncomputable def addS (l:List Str) (x:Str):List Str:=if x∈l then l else l++[x]
theorem laid_led {mask finger moves:Nat} {led plain:Bool} {hs:Array Int} {t':SetTable} {order:Array Nat} (h:SetTable.laid mask finger moves led plain hs=some (t',order)):t'.led=led∧t'.plain=plain:=by
 unfold SetTable.laid at h
 cases ho:SetTable.layClean mask hs with
 | none=>rw [ho] at h;cases h
 | some owner=>rw [ho] at h;injection h with h;injection h with h1 h2;rw [← h1];exact ⟨rfl,rfl⟩
theorem relayAll_led (t:SetTable) (es:Array (Int×Value)) (n:Nat):(relayAll t es n).2.1.led=t.led∧(t.plain=false→(relayAll t es n).2.1.plain=false):=by
 unfold relayAll
 split
 ·rename_i t' order he
  have:=laid_led he
  dsimp only
  split
  ·exact ⟨this.1,fun h=>this.2.trans h⟩
  ·exact ⟨rfl,fun _=>rfl⟩
 ·exact ⟨rfl,fun _=>rfl⟩
theorem layNew_led (t:SetTable) (es:Array (Int×Value)) (h:Int) (x:Value):(layNew t es h x).2.1.led=t.led:=by
 unfold layNew
 split
 ·unfold SetTable.put SetTable.orStandIn
  dsimp only
  (repeat' split) <;> rfl
 ·rfl
section
variable {prog:Program} {w:World} {A:Around} {E:Value→Shared→Prop} {s:Shared}
theorem SetIn.elems {es:Array (Int×Value)} {t:SetTable} {ss:List Str} (h:SetIn w es t ss):ElemsOf (strKind prog w) es.toList:=fun e he=>by
 obtain ⟨x,k,rfl⟩:=h.txts e he
 exact ⟨⟨x,by simp [strKind,Value.isStrOf],rfl⟩,rfl⟩
theorem putSet_at {h:Heap} {a:Addr} {o:Obj} {es:Array (Int×Value)} {ep:Nat} {t:SetTable} (ho:h.get? a=some o) (hd:o.data=.set es ep t) (es':Array (Int×Value)) (t':SetTable) :
  (h.update a (Obj.putSet es' t')).get? a=some { o with data:=.set es' (ep+1) t' }:=by
 have:=Heap.get?_update_self (Obj.putSet es' t') ho (by rw [putSet_of es' t' hd];rfl)
 rw [putSet_of es' t' hd] at this;exact this
theorem addTailS {g:Bool→Sem Unit} (hg:∀ (b:Bool) (s₁:Shared) (Q':Unit→Shared→Prop),Q' () s₁→wpAny (model prog w) A (g b) Q' E s₁)
  {a:Addr} {o:Obj} {es:Array (Int×Value)} {ep:Nat} {t:SetTable} (ho:s.heap.get? a=some o) (hex:o.ExactSet) (hd:o.data=.set es ep t)
  {es1:Array (Int×Value)} {t2:SetTable} {ss:List Str} (h1:SetIn w es1 t2 ss) (hp2:t2.plain=false) {wasDummy:Bool} {R:Option Bool→Shared→Prop}
  (h:∀ h',Heap.SameBut a s.heap h'→SetS w h' a ss→R (some true) { s with heap:=h' }) :
  wpAny (model prog w) A (do
    storeSet a es1 t2
    if (!wasDummy && t2.tooFull)=true then do
      g (relayAll t2 es1 (SetTable.grown es1.size)).2.2
      storeSet a (relayAll t2 es1 (SetTable.grown es1.size)).1 (relayAll t2 es1 (SetTable.grown es1.size)).2.1
      pure (some true)
     else pure (some true)) R E s:=by
 refine wpAny_bind (wpAny_storeSet_of ho hd ?_ (fits_of_scanBound h1.small))
 have ho1:=putSet_at ho hd es1 t2
 have hsb1:=Heap.SameBut.update s.heap a (Obj.putSet es1 t2)
 split
 ·have hp:=relayAll_perm t2 es1 (SetTable.grown es1.size)
  have hfr:=relayAll_fits t2 es1 (SetTable.grown es1.size)
  have hl:=relayAll_led t2 es1 (SetTable.grown es1.size)
  generalize relayAll t2 es1 (SetTable.grown es1.size)=Rl at hp hfr hl ⊢
  obtain ⟨es2,t3,gave2⟩:=Rl
  dsimp only at hp hfr hl ⊢
  have hsz:es2.size=es1.size:=by rw [← Array.length_toList,hp.length_eq,Array.length_toList]
  have h2:SetIn w es2 t3 ss:=⟨fun e he=>h1.txts e (hp.mem_iff.mp he),(hp.map _).trans h1.perm,by rw [hsz];exact h1.small,hfr,hl.1.trans h1.led,.inr (hl.2 hp2)⟩
  refine wpAny_bind (hg _ _ _ (wpAny_bind (wpAny_storeSet_of ho1 rfl (wpAny_pure (h _ (hsb1.trans (Heap.SameBut.update _ a _)) ?_)) (fits_of_scanBound h2.small))))
  exact ⟨_,es2,_,t3,putSet_at ho1 rfl es2 t3,hex,rfl,h2⟩
 ·exact wpAny_pure (h _ hsb1 ⟨_,es1,_,t2,ho1,hex,rfl,h1⟩)
theorem setAdd_S {a:Addr} {ss:List Str} {x:Str} {k:Tok} {Q:Bool→Shared→Prop} (hS:SetS w s.heap a ss) (hroom:ss.length+1 < scanBound)
  (h:∀ r h',Heap.SameBut a s.heap h'→SetS w h' a (addS ss x)→Q r { s with heap:=h',toks:=s.toks+1 }):wpAny (model prog w) A (setAdd a (.str x k)) Q E s:=by
 obtain ⟨o,es,ep,t,ho,hex,hd,hin⟩:=hS
 have hkey:(strKind prog w).is x (.str x k)=true:=by simp [strKind,Value.isStrOf]
 have hel:=hin.elems (prog:=prog)
 have hsz:es.size=ss.length:=by rw [← hin.perm.length_eq,List.length_map,Array.length_toList]
 have hb1:es.size+1 < scanBound:=by rw [hsz];exact hroom
 unfold setAdd
 refine wpAny_holding (wpAny_bind ((strKind prog w).pyHash hkey ?_))
 unfold setAddHashed setAddHashedIn
 refine wpAny_holding (wpAny_bind (wpAny_setState_of (s:={ s with toks:=s.toks+1 }) ho hd hin.fits ?_))
 dsimp only
 rw [byScan_of (x:=.str x k) rfl hin.small hel]
 simp only [↓reduceIte]
 unfold setAddByScan
 refine wpAny_bind (wpAny_bind (wpAny_rule (wpAny_bind (wpAny_setScan_of (s:={ s with toks:=s.toks+1 }) hkey ho hd hin.fits hel ?_))))
 have mem_iff:∀ j (hj:j < es.toList.length),(strKind prog w).is x es.toList[j].2=true→x∈ss:=fun j hj hp=>by
  obtain ⟨y,u,e⟩:=hin.txts _ (List.getElem_mem hj)
  rw [e] at hp
  obtain ⟨t',e'⟩:=Value.isStrOf_shape (show Value.isStrOf x (.str y u)=true from hp)
  injection e' with e1 e2
  subst e1
  exact hin.perm.mem_iff.mp (List.mem_map.mpr ⟨_,List.getElem_mem hj,by rw [e];rfl⟩)
 cases hr:List.findIdx? (fun e=>(strKind prog w).is x e.2) es.toList with
 | some j =>
  dsimp only
  obtain ⟨hj,hpj,_⟩:=List.findIdx?_eq_some_iff_getElem.mp hr
  have hx:=mem_iff j hj hpj
  refine wpAny_pure (wpAny_pure (h _ s.heap (Heap.SameBut.refl a s.heap) ?_))
  unfold addS
  rw [if_pos hx]
  exact ⟨o,es,ep,t,ho,hex,hd,hin⟩
 | none =>
  dsimp only
  have hx:x∉ss:=fun hm=>by
   obtain ⟨e,he,hu⟩:=List.mem_map.mp (hin.perm.mem_iff.mpr hm)
   obtain ⟨y,u,rfl⟩:=hin.txts e he
   have hu':y=x:=hu
   subst hu'
   have:=List.findIdx?_eq_none_iff.mp hr _ he
   simp [strKind,Value.isStrOf] at this
  have hperm:=layNew_perm t es (hashStr w x) (.str x k)
  have hfits:=layNew_fits t es (hashStr w x) (.str x k)
  have hled:=layNew_led t es (hashStr w x) (.str x k)
  show wpAny (model prog w) A _ _ E _
  generalize hL:layNew t es ((strKind prog w).hash x) (.str x k)=L
  rw [show layNew t es (hashStr w x) (.str x k)=L from hL] at hperm hfits hled
  obtain ⟨es1,t1,wasDummy,gave⟩:=L
  dsimp only at hperm hfits hled ⊢
  rw [Array.toList_push] at hperm
  have hsz1:es1.size=es.size+1:=by rw [← Array.length_toList,hperm.length_eq,List.length_append,Array.length_toList];rfl
  have hin1:∀ t2:SetTable,t2.fits es1.size=true→t2.led=t1.led→t2.plain=false→SetIn w es1 t2 (addS ss x):=fun t2 f1 f2 f3=>by
   refine ⟨fun e he=>?_,?_,by rw [hsz1];exact hb1,f1,f2.trans (hled.trans hin.led),.inr f3⟩
   ·rcases List.mem_append.mp (hperm.mem_iff.mp he) with he | he
    ·exact hin.txts e he
    ·rw [List.mem_singleton.mp he];exact ⟨x,k,rfl⟩
   ·unfold addS
    rw [if_neg hx]
    refine (hperm.map _).trans ?_
    rw [List.map_append]
    exact List.Perm.append_right _ hin.perm
  have hgw:∀ (b:Bool) (s₁:Shared) (Q':Unit→Shared→Prop),Q' () s₁→wpAny (model prog w) A (match b with | true=>rule "set.scan.the-table-gave-way" | false=>pure ()) Q' E s₁ :=
   fun b s₁ Q' hq=>by cases b <;> first | exact wpAny_pure hq | exact wpAny_rule hq
  refine wpAny_bind (hgw _ _ _ ?_)
  have hend:∀ h',Heap.SameBut a s.heap h'→SetS w h' a (addS ss x)→Q true { s with heap:=h',toks:=s.toks+1 }:=fun h' hsb hS'=>h _ h' hsb hS'
  split
  ·refine wpAny_bind ?_
   rw [hashByValue_scannable 8 (x:=.str x k) rfl]
   refine wpAny_pure ?_
   refine addTailS (s:={ s with toks:=s.toks+1 }) hgw ho hex hd (hin1 _ ?_ ?_ ?_) ?_ ?_
   ·exact SetTable.fits_plain_off hfits
   ·rfl
   ·rfl
   ·rfl
   ·intro h' hsb hS';dsimp only;exact wpAny_pure (hend h' hsb hS')
  ·rename_i hpl
   refine wpAny_bind (wpAny_pure ?_)
   simp only [↓reduceIte]
   have hpl':t1.plain=false:=by simpa using hpl
   refine addTailS (s:={ s with toks:=s.toks+1 }) hgw ho hex hd (hin1 _ hfits rfl hpl') hpl' ?_
   intro h' hsb hS';dsimp only;exact wpAny_pure (hend h' hsb hS')
end
noncomputable def firstS (val:Nat→Str) (i:Nat):List Str:=((List.range i).map val).foldl addS []
theorem firstS_succ (val:Nat→Str) (i:Nat):firstS val (i+1)=addS (firstS val i) (val i):=by
 unfold firstS;rw [List.range_succ,List.map_append,List.foldl_append];rfl
theorem addS_len (l:List Str) (x:Str):(addS l x).length≤l.length+1:=by unfold addS;split <;> simp
theorem firstS_len (val:Nat→Str):∀ i,(firstS val i).length≤i
 | 0=>Nat.le_refl _
 | i+1=>by rw [firstS_succ];exact Nat.le_trans (addS_len _ _) (Nat.succ_le_succ (firstS_len val i))
section
variable {prog:Program} {w:World} {A:Around} {R:Result→Shared→Prop} {I:Addr} {fp wr:List Addr} {G:Array GenState→Array GenState→Prop} {n:Nat} {P:Nat→Value→Prop} {St:Nat→Shared→Prop}
theorem set_update_S (W:WalksS prog w A.in1 I fp wr G n P St) (S:Addr) (hSf:S∉fp) (val:Nat→Str) (hval:∀ i v,P i v→∃ t,v=.str (val i) t) (hb:n+1 < scanBound) :
  ∀ (k i:Nat) (s:Shared),n - i=k→i≤n→St i s→SetS w s.heap S (firstS val i)→
   (∀ s',Moved (S :: wr) G s s'→SetS w s'.heap S (firstS val n)→R (.ok (.ret .none)) s')→
   codeAny (model prog w) A (.builtin "set.update.loop" ⟨[.ref S,.ref I],[]⟩) R s:=by
 have hSw:S∉wr:=fun h=>hSf (W.sub _ h)
 have hsub:∀ b∈wr,b∈S :: wr:=fun b hb=>List.mem_cons_of_mem _ hb
 intro k
 induction k with
 | zero =>
  intro i s hk hi hst hS hR
  have hin:i=n:=by exact qGE hk hi
  subst hin
  refine codeAny_builtin PyProof.Rows.F.entry_set_update_loop ?_
  rw [Around.under_plainId PyProof.Rows.F.plain_set_update_loop _]
  show wpAny _ A.in1 (pyNext (.ref I) >>= _) _ _ s
  refine wpAny_bind (W.done s _ _ hst fun s' hm=>?_)
  show wpAny _ A.in1 (ret Value.none) _ _ s'
  exact wpAny_pure (hR s' (hm.mono hsub) (hS.at fun o e=>hm.heap S _ hSw e))
 | succ k ih =>
  intro i s hk hi hst hS hR
  have hlt:i < n:=by exact qGu hk
  refine codeAny_builtin PyProof.Rows.F.entry_set_update_loop ?_
  rw [Around.under_plainId PyProof.Rows.F.plain_set_update_loop _]
  show wpAny _ A.in1 (pyNext (.ref I) >>= _) _ _ s
  refine wpAny_bind (W.item i s _ _ hlt hst fun v s' hP hst' hm=>?_)
  obtain ⟨t,rfl⟩:=hval i v hP
  have hS':SetS w s'.heap S (firstS val i):=hS.at fun o e=>hm.heap S _ hSw e
  show wpAny _ A.in1 (holding [Value.str (val i) t] (setAdd S (.str (val i) t)) >>= _) _ _ s'
  refine wpAny_bind (wpAny_holding ?_)
  refine setAdd_S hS' (by have:=firstS_len val i;exact qCY hb hk this) fun r h' hsb hS2=>?_
  rw [← firstS_succ] at hS2
  refine wpAny_pure ⟨plainId_quiet PyProof.Rows.F.plain_set_update_loop _,ih (i+1) _ (by exact qCQ hk) hlt (W.frame _ s' _ _ hst' (Nat.le_succ _) fun b hb o e=>?_) hS2 fun s'' hm'' hS''=>?_⟩
  ·rw [hsb.2 b (fun h:b=S=>hSf (by rw [← h];exact hb))];exact e
  ·refine hR s'' (Moved.trans W.gtrans ((hm.mono hsub).then_heap (Nat.le_succ _) fun b o hb e=>?_) hm'') hS''
   rw [hsb.2 b (fun h:b=S=>hb (by rw [h];exact List.mem_cons_self))];exact e
end
end Mine
namespace Mine
open PySem PySem.Calls PyProof.Rows
inductive V where
 | none
 | bool (b:Bool)
 | int (i:Int)
 | str (s:Str)
 | tup (xs:List V)
 | ref (k:Nat)
 | raw (v:Value)
 | rng (a b c:Int)
inductive Key where
 | s (x:Str)
 | i (n:Int)
 deriving DecidableEq
inductive AObj where
 | list (xs:List V)
 | dict (es:List (Key×V)) (ep:Option Nat)
 | inst (C:Addr) (k:Nat)
 | ns (as:List (Str×V))
 | set (ss:List Str)
 | exc (C:Addr) (t:Option Nat)
 | tb
mutual
noncomputable def Val (φ:List Addr) (h:Heap):V→Value→Prop
 | .none,v=>v=.none
 | .bool b,v=>v=.bool b
 | .int i,v=>∃ t,v=.int i t
 | .str s,v=>∃ t,v=.str s t
 | .tup xs,v=>∃ a vs,v=.ref a∧IsTup h a vs∧Vals φ h xs vs.toList
 | .ref k,v=>∃ a,v=.ref a∧φ[k]?=some a
 | .raw u,v=>v=u
 | .rng a b c,v=>∃ r t u k,v=.ref r∧h.get? r=some { cls:=.type "range",data:=.fields #[.int a t,.int b u,.int c k] }
noncomputable def Vals (φ:List Addr) (h:Heap):List V→List Value→Prop
 | [],vs=>vs=[]
 | x :: xs,vs=>∃ v r,vs=v :: r∧Val φ h x v∧Vals φ h xs r
end
noncomputable def Still (o:Obj):Prop:=(o.cls=.type "tuple"∧∃ vs n,o.data=.seq vs n)∨(o.cls=.type "range"∧∃ vs,o.data=.fields vs)
mutual
theorem Val.mono {φ φ':List Addr} {h h':Heap} (hp:φ <+: φ')
  (hk:∀ a o,h.get? a=some o→Still o→h'.get? a=some o) :
  ∀ (x:V) {v:Value},Val φ h x v→Val φ' h' x v
 | .none,_,e=>by simpa [Val] using e
 | .bool _,_,e=>by simpa [Val] using e
 | .int _,_,e=>by simpa [Val] using e
 | .str _,_,e=>by simpa [Val] using e
 | .tup xs,v,e=>by
  rw [Val] at e ⊢
  obtain ⟨a,vs,rfl,⟨o,ho,hc,n,hd⟩,hv⟩:=e
  exact ⟨a,vs,rfl,⟨o,hk a o ho (.inl ⟨hc,vs,n,hd⟩),hc,n,hd⟩,Vals.mono hp hk xs hv⟩
 | .ref k,_,e=>by
  rw [Val] at e ⊢
  obtain ⟨a,rfl,ha⟩:=e
  refine ⟨a,rfl,?_⟩
  obtain ⟨r,rfl⟩:=hp
  rw [List.getElem?_append_left (List.getElem?_eq_some_iff.mp ha).1];exact ha
 | .raw _,_,e=>by simpa [Val] using e
 | .rng a b c,_,e=>by
  rw [Val] at e ⊢
  obtain ⟨r,t,u,k,rfl,ho⟩:=e
  exact ⟨r,t,u,k,rfl,hk r _ ho (.inr ⟨rfl,_,rfl⟩)⟩
theorem Vals.mono {φ φ':List Addr} {h h':Heap} (hp:φ <+: φ')
  (hk:∀ a o,h.get? a=some o→Still o→h'.get? a=some o) :
  ∀ (xs:List V) {vs:List Value},Vals φ h xs vs→Vals φ' h' xs vs
 | [],_,e=>by simpa [Vals] using e
 | x :: xs,_,e=>by
  rw [Vals] at e ⊢
  obtain ⟨v,r,rfl,h1,h2⟩:=e
  exact ⟨v,r,rfl,Val.mono hp hk x h1,Vals.mono hp hk xs h2⟩
end
theorem Vals.length {φ:List Addr} {h:Heap}:∀ {xs:List V} {vs:List Value},Vals φ h xs vs→vs.length=xs.length
 | [],_,e=>by rw [Vals] at e;subst e;rfl
 | _ :: _,_,e=>by
  rw [Vals] at e
  obtain ⟨v,r,rfl,_,h2⟩:=e
  simp [Vals.length h2]
theorem Vals.nil {φ:List Addr} {h:Heap}:Vals φ h [] []:=by rw [Vals]
theorem Vals.cons {φ:List Addr} {h:Heap} {x:V} {xs:List V} {v:Value} {vs:List Value} (h1:Val φ h x v) (h2:Vals φ h xs vs):Vals φ h (x :: xs) (v :: vs):=by
 rw [Vals];exact ⟨v,vs,rfl,h1,h2⟩
theorem Vals.get {φ:List Addr} {h:Heap}:∀ {xs:List V} {vs:List Value},Vals φ h xs vs→∀ {i:Nat} {x:V},xs[i]?=some x→∃ v,vs[i]?=some v∧Val φ h x v
 | [],_,_,i,x,hx=>by simp at hx
 | y :: ys,_,e,i,x,hx=>by
  rw [Vals] at e
  obtain ⟨v,r,rfl,h1,h2⟩:=e
  cases i with
  | zero=>simp at hx;subst hx;exact ⟨v,rfl,h1⟩
  | succ i=>simpa using Vals.get h2 (by simpa using hx)
theorem Vals.append {φ:List Addr} {h:Heap}:∀ {xs ys:List V} {vs ws:List Value},Vals φ h xs vs→Vals φ h ys ws→Vals φ h (xs++ys) (vs++ws)
 | [],_,_,_,e,f=>by rw [Vals] at e;subst e;exact f
 | x :: xs,_,_,_,e,f=>by
  rw [Vals] at e
  obtain ⟨v,r,rfl,h1,h2⟩:=e
  exact .cons h1 (Vals.append h2 f)
section kk
variable (prog:Program) (w:World)
theorem eqBool_str_int {A:Around} {E:Value→Shared→Prop} {s:Shared} {x:Str} {n:Int} {t u:Tok} {Q:Bool→Shared→Prop} (h:Q false s) :
  wpAny (model prog w) A (PySem.eqBool (.str x t) (.int n u)) Q E s:=by
 unfold PySem.eqBool
 refine wpAny_holding ?_
 rw [if_neg (show ¬ ((Value.str x t == Value.int n u)=true) from Bool.false_ne_true)]
 show wpAny _ _ (richCompare .Eq _ _ >>= fun r=>truthOfDropped r) Q E s
 exact wpAny_bind (show wpAny _ _ (compareOp .Eq _ _) _ _ _ from EqMixed.eq_str_int (wpAny_truthy_bool h))
theorem eqBool_int_str {A:Around} {E:Value→Shared→Prop} {s:Shared} {x:Str} {n:Int} {t u:Tok} {Q:Bool→Shared→Prop} (h:Q false s) :
  wpAny (model prog w) A (PySem.eqBool (.int n u) (.str x t)) Q E s:=by
 unfold PySem.eqBool
 refine wpAny_holding ?_
 rw [if_neg (show ¬ ((Value.int n u == Value.str x t)=true) from Bool.false_ne_true)]
 show wpAny _ _ (richCompare .Eq _ _ >>= fun r=>truthOfDropped r) Q E s
 exact wpAny_bind (show wpAny _ _ (compareOp .Eq _ _) _ _ _ from EqMixed.eq_int_str (wpAny_truthy_bool h))
noncomputable def Key.is:Key→Value→Bool
 | .s x,v=>Value.isStrOf x v
 | .i n,v=>Value.isInt n v
noncomputable def Key.hash (w:World):Key→Int
 | .s x=>hashStr w x
 | .i n=>hashInt n
theorem Key.is_shape {k:Key} {v:Value} (h:k.is v=true):(∃ x t,k=.s x∧v=.str x t)∨∃ n t,k=.i n∧v=.int n t:=by
 cases k with
 | s x=>obtain ⟨t,rfl⟩:=Value.isStrOf_shape h;exact .inl ⟨x,t,rfl,rfl⟩
 | i n=>obtain ⟨t,rfl⟩:=Value.isInt_shape h;exact .inr ⟨n,t,rfl,rfl⟩
noncomputable def kk:KeyKind prog w Key where
 is:=Key.is
 hash:=Key.hash w
 inj:=fun v a b ha hb=>by
  rcases Key.is_shape ha with ⟨x,t,rfl,rfl⟩ | ⟨x,t,rfl,rfl⟩ <;> rcases Key.is_shape hb with ⟨y,u,rfl,e⟩ | ⟨y,u,rfl,e⟩ <;> cases e <;> rfl
 byValue:=fun k v h=>by rcases Key.is_shape h with ⟨x,t,rfl,rfl⟩ | ⟨x,t,rfl,rfl⟩ <;> rfl
 pyHash:=fun hv h=>by
  rcases Key.is_shape hv with ⟨x,t,rfl,rfl⟩ | ⟨x,t,rfl,rfl⟩
  ·exact wpAny_pyHash_str h
  ·exact wpAny_pyHash_int h
 eqBool:=fun {A E s a b u v Q} hu hv h=>by
  rcases Key.is_shape hu with ⟨x,t,rfl,rfl⟩ | ⟨x,t,rfl,rfl⟩ <;> rcases Key.is_shape hv with ⟨y,u,rfl,rfl⟩ | ⟨y,u,rfl,rfl⟩
  ·refine wpAny_eqBool_str ?_
   have:decide (Key.s x=Key.s y)=decide (x=y):=by simp
   rwa [this] at h
  ·refine eqBool_str_int prog w ?_
   simpa using h
  ·refine eqBool_int_str prog w ?_
   simpa using h
  ·refine wpAny_eqBool_int ?_
   have:decide (Key.i x=Key.i y)=(x == y):=by simp;rfl
   rwa [this] at h
 «strs»:=fun k x t v h=>by
  rcases Key.is_shape h with ⟨y,u,rfl,e⟩ | ⟨y,u,rfl,e⟩
  ·cases e;cases v <;> rfl
  ·cases e
end kk
noncomputable def Key.v:Key→V
 | .s x=>.str x
 | .i n=>.int n
inductive Ents (φ:List Addr) (h:Heap):List (Key×V)→List (Key×Value)→Prop
 | nil:Ents φ h [] []
 | cons {k:Key} {x:V} {v:Value} {es:List (Key×V)} {kvs:List (Key×Value)}:Val φ h x v→Ents φ h es kvs→Ents φ h ((k,x) :: es) ((k,v) :: kvs)
theorem Ents.mono {φ φ':List Addr} {h h':Heap} (hp:φ <+: φ')
  (hk:∀ a o,h.get? a=some o→Still o→h'.get? a=some o) {es:List (Key×V)} {kvs:List (Key×Value)} (e:Ents φ h es kvs):Ents φ' h' es kvs:=by
 induction e with
 | nil=>exact .nil
 | cons h1 _ ih=>exact .cons (Val.mono hp hk _ h1) ih
theorem Ents.keys {φ:List Addr} {h:Heap} {es:List (Key×V)} {kvs:List (Key×Value)} (e:Ents φ h es kvs):kvs.map (·.1)=es.map (·.1):=by
 induction e with
 | nil=>rfl
 | cons _ _ ih=>simp [ih]
theorem Ents.length {φ:List Addr} {h:Heap} {es:List (Key×V)} {kvs:List (Key×Value)} (e:Ents φ h es kvs):kvs.length=es.length:=by
 induction e with
 | nil=>rfl
 | cons _ _ ih=>simp [ih]
noncomputable def at? (es:List (Key×V)) (k:Key):Option V:=(es.find? fun e=>e.1=k).map (·.2)
noncomputable def put (es:List (Key×V)) (k:Key) (x:V):List (Key×V) :=
 if es.any (fun e=>e.1=k) then es.map (fun e=>if e.1=k then (e.1,x) else e) else es++[(k,x)]
theorem Ents.at? {φ:List Addr} {h:Heap} {es:List (Key×V)} {kvs:List (Key×Value)} (e:Ents φ h es kvs) (k:Key) :
  (∃ x v,at? es k=some x∧valueAt kvs k=some v∧Val φ h x v)∨(at? es k=none∧valueAt kvs k=none):=by
 induction e with
 | nil=>exact .inr ⟨rfl,rfl⟩
 | @cons k' x v es kvs h1 _ ih =>
  by_cases hk:k'=k
  ·subst hk;exact .inl ⟨x,v,by simp [Mine.at?],by simp [valueAt],h1⟩
  ·simpa [Mine.at?,valueAt,hk] using ih
theorem Ents.append {φ:List Addr} {h:Heap} {es es':List (Key×V)} {kvs kvs':List (Key×Value)} (e:Ents φ h es kvs) (e':Ents φ h es' kvs'):Ents φ h (es++es') (kvs++kvs'):=by
 induction e with
 | nil=>exact e'
 | cons h1 _ ih=>exact .cons h1 ih
theorem Ents.any {φ:List Addr} {h:Heap} {es:List (Key×V)} {kvs:List (Key×Value)} (e:Ents φ h es kvs) (k:Key):(kvs.any fun e=>e.1=k)=es.any fun e=>e.1=k:=by
 induction e with
 | nil=>rfl
 | cons _ _ ih=>simp only [List.any_cons,ih]
theorem Ents.put {φ:List Addr} {h:Heap} {es:List (Key×V)} {kvs:List (Key×Value)} (e:Ents φ h es kvs) (k:Key) {x:V} {v:Value} (hx:Val φ h x v):Ents φ h (put es k x) (stored kvs k v):=by
 unfold Mine.put stored
 rw [e.any k]
 split
 ·rename_i hany;clear hany
  induction e with
  | nil=>exact .nil
  | @cons k' x' v' es kvs h1 _ ih =>
   simp only [List.map_cons]
   by_cases hk:k'=k
   ·simp only [hk,if_true];exact .cons hx ih
   ·simp only [hk,if_false];exact .cons h1 ih
 ·exact e.append (.cons hx .nil)
section st
variable (prog:Program) (w:World)
noncomputable def ObjR (φ:List Addr) (h:Heap) (a:Addr):AObj→Prop
 | .list xs=>∃ vs n,h.get? a=some { cls:=.type "list",data:=.seq vs n }∧Vals φ h xs vs.toList
 | .dict es e=>∃ kvs ep,h.DictAt (kk prog w) a kvs ep∧Ents φ h es kvs∧∀ n,e=some n→ep=n
 | .inst C k=>∃ d,h.get? a=some { cls:=.ref C,dict:=some d,data:=.plain }∧φ[k]?=some d
 | .set ss=>SetS w h a ss
 | .exc C t=>∃ o vs,h.get? a=some o∧(o.cls=.ref C∧o.dict=none)∧o.data=.fields vs∧match t with
   | none=>vs[1]?=some .none
   | some k=>∃ T,vs[1]?=some (.ref T)∧φ[k]?=some T
 | .tb=>∃ o ts x,h.get? a=some o∧o.cls=.type "traceback"∧o.data=.fields ts∧ts[3]?=some x
 | .ns as=>∃ es n,h.get? a=some { cls:=.type "dict",data:=.dict es n }∧StrKeys es∧es.size≤as.length∧
   ∀ x,match as.lookup x with
    | some v=>∃ val,nsFind es x=some val∧Val φ h v val
    | none=>nsFind es x=none
structure St (B:Shared) (φ:List Addr) (σ:List AObj) (s:Shared):Prop where
 base:∀ b o,B.heap.get? b=some o→s.heap.get? b=some o
 new:∀ a∈φ,B.heap.get? a=none
 nodup:φ.Nodup
 len:φ.length=σ.length
 objs:∀ (k:Nat) (a:Addr) (ob:AObj),φ[k]?=some a→σ[k]?=some ob→ObjR prog w φ s.heap a ob
 gens:s.gens=B.gens
 os:s.os=B.os
 sys:(∃ o,B.heap.get? cStatics=some o)∧sysModules∉φ
noncomputable def NoD (o:Obj):Prop:=∀ es n,o.data≠.dict es n
theorem NoD.fields {o:Obj} {vs:Array Value} (h:o.data=.fields vs):NoD o:=fun _ _ e=>by rw [h] at e;cases e
noncomputable def Sim (o o':Obj):Prop:=o'=o∨(¬ NoD o∧o'.cls=o.cls∧o'.dict=o.dict∧o'.data=o.data)
theorem Sim.refl (o:Obj):Sim o o:=.inl rfl
theorem Sim.cls {o o':Obj} (h:Sim o o'):o'.cls=o.cls:=h.elim (fun e=>by rw [e]) fun h=>h.2.1
theorem Sim.dict {o o':Obj} (h:Sim o o'):o'.dict=o.dict:=h.elim (fun e=>by rw [e]) fun h=>h.2.2.1
theorem Sim.data {o o':Obj} (h:Sim o o'):o'.data=o.data:=h.elim (fun e=>by rw [e]) fun h=>h.2.2.2
theorem Sim.trans {a b c:Obj} (h:Sim a b) (g:Sim b c):Sim a c:=by
 rcases h with rfl | h
 ·exact g
 ·exact .inr ⟨h.1,g.cls.trans h.2.1,g.dict.trans h.2.2.1,g.data.trans h.2.2.2⟩
theorem Sim.same {o o':Obj} (h:Sim o o') (hc:NoD o):o'=o:=by
 rcases h with h | h
 ·exact h
 ·exact absurd hc h.1
structure Step (D φ:List Addr) (h:Heap) (φ':List Addr) (h':Heap):Prop where
 pre:φ <+: φ'
 fresh:∀ a∈φ',a∈φ∨h.get? a=none
 keep:∀ b o,h.get? b=some o→b∉φ→b∉D→∃ o',h'.get? b=some o'∧Sim o o'
theorem Step.refl (D φ:List Addr) (h:Heap):Step D φ h φ h:=⟨List.prefix_refl _,fun _ ha=>.inl ha,fun _ o e _ _=>⟨o,e,.refl o⟩⟩
theorem Step.mono {D D' φ φ':List Addr} {h h':Heap} (s:Step D φ h φ' h') (hd:∀ a∈D,a∈D'):Step D' φ h φ' h' :=
 ⟨s.pre,s.fresh,fun b o e h1 h2=>s.keep b o e h1 fun hb=>h2 (hd b hb)⟩
theorem Step.nilD {D φ φ':List Addr} {h h':Heap} (s:Step [] φ h φ' h'):Step D φ h φ' h':=s.mono fun _ h=>nomatch h
theorem Step.trans {D φ φ₁ φ₂:List Addr} {h h₁ h₂:Heap} (s:Step D φ h φ₁ h₁) (t:Step D φ₁ h₁ φ₂ h₂) (hD:∀ a∈D,a∉φ₁∧a∉φ₂∨h.get? a=none):Step D φ h φ₂ h₂:=by
 refine ⟨s.pre.trans t.pre,fun a ha=>?_,fun b o e h1 h2=>?_⟩
 ·rcases t.fresh a ha with h3 | h3
  ·exact s.fresh a h3
  ·by_cases h4:a∈φ
   ·exact .inl h4
   ·cases e:h.get? a with
    | none=>exact .inr rfl
    | some o =>
     by_cases h5:a∈D
     ·rcases hD a h5 with h6 | h6
      ·exact absurd ha h6.2
      ·rw [h6] at e;cases e
     ·obtain ⟨o',h6,_⟩:=s.keep a o e h4 h5
      rw [h6] at h3;cases h3
 ·obtain ⟨o₁,e₁,a1⟩:=s.keep b o e h1 h2
  have h3:b∉φ₁:=fun hb=>by
   rcases s.fresh b hb with h4 | h4
   ·exact h1 h4
   ·rw [h4] at e;cases e
  obtain ⟨o₂,e₂,b1⟩:=t.keep b o₁ e₁ h3 h2
  exact ⟨o₂,e₂,a1.trans b1⟩
theorem Step.trans0 {φ φ₁ φ₂:List Addr} {h h₁ h₂:Heap} (s:Step [] φ h φ₁ h₁) (t:Step [] φ₁ h₁ φ₂ h₂):Step [] φ h φ₂ h₂:=s.trans t fun _ h=>nomatch h
theorem Step.of_keeps {φ:List Addr} {h h':Heap} (hk:∀ b o,h.get? b=some o→h'.get? b=some o):Step [] φ h φ h' :=
 ⟨List.prefix_refl _,fun _ ha=>.inl ha,fun b o e _ _=>⟨o,hk b o e,.refl o⟩⟩
variable {prog w}
variable {B:Shared} {φ φ':List Addr} {σ σ':List AObj} {s:Shared}
theorem notStill_dict {o:Obj} {es:Array DictEntry} {n:Nat} (h:o.data=.dict es n):¬ Still o:=by
 rintro (⟨_,vs,m,h'⟩ | ⟨_,vs,h'⟩) <;> rw [h] at h' <;> cases h'
theorem notStill_cell {o:Obj} {v:Option Value} (h:o.data=.cell v):¬ Still o:=by
 rintro (⟨_,vs,m,h'⟩ | ⟨_,vs,h'⟩) <;> rw [h] at h' <;> cases h'
theorem notStill_type {o:Obj} {T:String} (h:o.cls=.type T) (h1:T≠"tuple") (h2:T≠"range"):¬ Still o:=by
 rintro (⟨h',_⟩ | ⟨h',_⟩)
 ·rw [h] at h';exact h1 (by injection h')
 ·rw [h] at h';exact h2 (by injection h')
theorem ObjR.notStill {h:Heap} {a:Addr} {o:Obj} {ob:AObj} (r:ObjR prog w φ h a ob) (ho:h.get? a=some o):¬ Still o:=by
 cases ob with
 | list xs =>
  obtain ⟨vs,n,e,_⟩:=r
  rw [e] at ho;cases ho
  exact notStill_type rfl (by decide) (by decide)
 | dict es e =>
  obtain ⟨kvs,ep,⟨o',es',e,hx,hd,_⟩,_⟩:=r
  rw [e] at ho;cases ho
  exact notStill_type hx.1 (by decide) (by decide)
 | inst C k =>
  obtain ⟨d,e,_⟩:=r
  rw [e] at ho;cases ho
  rintro (⟨h,_⟩ | ⟨h,_⟩) <;> cases h
 | ns as =>
  obtain ⟨es,n,e,_⟩:=r
  rw [e] at ho;cases ho
  exact notStill_type rfl (by decide) (by decide)
 | set ss =>
  obtain ⟨o',es,ep,t,e,hx,_⟩:=r
  rw [e] at ho;cases ho
  exact notStill_type hx.1 (by decide) (by decide)
 | exc C t =>
  obtain ⟨o',vs,e,hc,_⟩:=r
  rw [e] at ho;cases ho
  rintro (⟨h,_⟩ | ⟨h,_⟩) <;> rw [hc.1] at h <;> cases h
 | tb =>
  obtain ⟨o',ts,x,e,hc,_⟩:=r
  rw [e] at ho;cases ho
  exact notStill_type hc (by decide) (by decide)
theorem St.notStill (G:St prog w B φ σ s) {a:Addr} {o:Obj} (ha:a∈φ) (ho:s.heap.get? a=some o):¬ Still o:=by
 obtain ⟨k,hk,rfl⟩:=List.mem_iff_getElem.mp ha
 have hk':k < σ.length:=G.len ▸ hk
 exact (G.objs k _ σ[k] (List.getElem?_eq_getElem hk) (List.getElem?_eq_getElem hk')).notStill ho
theorem Step.still {D:List Addr} {h':Heap} (G:St prog w B φ σ s) (t:Step D φ s.heap φ' h') (hD:∀ a∈D,∀ o,s.heap.get? a=some o→¬ Still o) :
  ∀ a o,s.heap.get? a=some o→Still o→h'.get? a=some o:=fun a o e hs=>by
 obtain ⟨o',h1,h2⟩:=t.keep a o e (fun ha=>G.notStill ha e hs) fun ha=>hD a ha o e hs
 obtain rfl:=h2.same fun es n hc=>by
  rcases hs with ⟨_,_,_,h⟩ | ⟨_,_,h⟩ <;> rw [h] at hc <;> cases hc
 exact h1
theorem Val.step {h':Heap} {x:V} {v:Value} (hv:Val φ s.heap x v) (G:St prog w B φ σ s) (t:Step [] φ s.heap φ' h'):Val φ' h' x v :=
 Val.mono t.pre (t.still G fun _ h=>nomatch h) x hv
theorem Vals.step {h':Heap} {xs:List V} {vs:List Value} (hv:Vals φ s.heap xs vs) (G:St prog w B φ σ s) (t:Step [] φ s.heap φ' h'):Vals φ' h' xs vs :=
 Vals.mono t.pre (t.still G fun _ h=>nomatch h) xs hv
theorem ObjR.mono {h h':Heap} {a:Addr} {ob:AObj} (r:ObjR prog w φ h a ob) (hp:φ <+: φ')
  (hk:∀ a o,h.get? a=some o→Still o→h'.get? a=some o) (ha:∀ o,h.get? a=some o→h'.get? a=some o):ObjR prog w φ' h' a ob:=by
 have hidx:∀ {k d:Nat},φ[k]?=some d→φ'[k]?=some d:=fun {k d} e=>by
  obtain ⟨r,rfl⟩:=hp
  rw [List.getElem?_append_left (List.getElem?_eq_some_iff.mp e).1];exact e
 cases ob with
 | list xs=>obtain ⟨vs,n,e,hv⟩:=r;exact ⟨vs,n,ha _ e,Vals.mono hp hk xs hv⟩
 | dict es e =>
  obtain ⟨kvs,ep,⟨o,es',e,r⟩,hv,hn⟩:=r
  exact ⟨kvs,ep,⟨o,es',ha _ e,r⟩,hv.mono hp hk,hn⟩
 | inst C k=>obtain ⟨d,e,hd⟩:=r;exact ⟨d,ha _ e,hidx hd⟩
 | set ss=>exact SetS.at r ha
 | exc C t =>
  obtain ⟨o,vs,e,h1,h2,h3⟩:=r
  refine ⟨o,vs,ha _ e,h1,h2,?_⟩
  cases t with
  | none=>exact h3
  | some k=>obtain ⟨T,e1,e2⟩:=h3;exact ⟨T,e1,hidx e2⟩
 | tb=>obtain ⟨o,ts,x,e,r⟩:=r;exact ⟨o,ts,x,ha _ e,r⟩
 | ns as =>
  obtain ⟨es,n,e,h1,h2,h3⟩:=r
  refine ⟨es,n,ha _ e,h1,h2,fun x=>?_⟩
  have:=h3 x
  cases hx:as.lookup x with
  | none=>rw [hx] at this;exact this
  | some v=>rw [hx] at this;obtain ⟨val,e1,e2⟩:=this;exact ⟨val,e1,Val.mono hp hk v e2⟩
theorem St.keeps {s':Shared} (G:St prog w B φ σ s) (hk:∀ b o,s.heap.get? b=some o→s'.heap.get? b=some o) (hg:s'.gens=s.gens:=by rfl) (ho:s'.os=s.os:=by rfl):St prog w B φ σ s' :=
 ⟨fun b o e=>hk b o (G.base b o e),G.new,G.nodup,G.len,fun k a ob h1 h2=>(G.objs k a ob h1 h2).mono (List.prefix_refl _) (fun a o e _=>hk a o e) fun o e=>hk a o e,hg.trans G.gens,ho.trans G.os,G.sys⟩
theorem St.sameBut {s':Shared} {c:Addr} (G:St prog w B φ σ s) (hs:Heap.SameBut c s.heap s'.heap) (hc:c∉φ) (hb:B.heap.get? c=none) (hn:∀ o,s.heap.get? c=some o→¬ Still o)
  (hg:s'.gens=s.gens:=by rfl) (ho:s'.os=s.os:=by rfl):St prog w B φ σ s':=by
 refine ⟨fun b o e=>hs.extBut b o (fun h=>by rw [h,hb] at e;cases e) (G.base b o e),G.new,G.nodup,G.len,fun k a ob h1 h2=>?_,hg.trans G.gens,ho.trans G.os,G.sys⟩
 refine (G.objs k a ob h1 h2).mono (List.prefix_refl _) (fun a o e hst=>hs.extBut a o (fun h=>hn o (h ▸ e) hst) e) fun o e=>hs.extBut a o (fun h=>hc (h ▸ List.mem_of_getElem? h1)) e
theorem Val.sameBut {h h':Heap} {c:Addr} {x:V} {v:Value} (hv:Val φ h x v) (hs:Heap.SameBut c h h') (hn:∀ o,h.get? c=some o→¬ Still o):Val φ h' x v :=
 Val.mono (List.prefix_refl _) (fun a o e hst=>hs.extBut a o (fun h=>hn o (h ▸ e) hst) e) x hv
theorem St.sub (G:St prog w B φ σ s) {b:Addr} {o:Obj} (hb:B.heap.get? b=some o):b∉φ:=fun h=>by rw [G.new b h] at hb;cases hb
theorem St.fresh (G:St prog w B φ σ s):s.heap.objs.size∉φ:=fun h=>by
 obtain ⟨k,hk,e⟩:=List.mem_iff_getElem.mp h
 have hk':k < σ.length:=G.len ▸ hk
 have r:=G.objs k _ σ[k] (List.getElem?_eq_getElem hk) (List.getElem?_eq_getElem hk')
 have:∃ o,s.heap.get? φ[k]=some o:=by
  cases hob:σ[k] with
  | list xs=>rw [hob] at r;obtain ⟨vs,n,e,_⟩:=r;exact ⟨_,e⟩
  | dict es e=>rw [hob] at r;obtain ⟨kvs,ep,⟨o,es',e,_⟩,_⟩:=r;exact ⟨_,e⟩
  | inst C k=>rw [hob] at r;obtain ⟨d,e,_⟩:=r;exact ⟨_,e⟩
  | ns as=>rw [hob] at r;obtain ⟨es,n,e,_⟩:=r;exact ⟨_,e⟩
  | set ss=>rw [hob] at r;obtain ⟨o',es,ep,t,e,_⟩:=r;exact ⟨_,e⟩
  | exc C t=>rw [hob] at r;obtain ⟨o',vs,e,_⟩:=r;exact ⟨_,e⟩
  | tb=>rw [hob] at r;obtain ⟨o',ts,x,e,_⟩:=r;exact ⟨_,e⟩
 obtain ⟨o,ho⟩:=this
 rw [e] at ho
 exact absurd (Heap.lt_size ho) (Nat.lt_irrefl _)
theorem get?_size (h:Heap):h.get? h.objs.size=none:=by
 cases e:h.get? h.objs.size with
 | none=>rfl
 | some o=>exact absurd (Heap.lt_size e) (Nat.lt_irrefl _)
theorem get?_of_ge {h:Heap} {a:Addr} (ha:h.objs.size≤a):h.get? a=none:=by
 cases e:h.get? a with
 | none=>rfl
 | some o=>exact absurd (Heap.lt_size e) (Nat.not_lt.mpr ha)
theorem St.baseSize (G:St prog w B φ σ s) {a:Addr} (ha:s.heap.get? a=none):B.heap.get? a=none:=by
 cases e:B.heap.get? a with
 | none=>rfl
 | some o=>rw [G.base a o e] at ha;cases ha
theorem St.sizeNe (G:St prog w B φ σ s):s.heap.objs.size≠sysModules:=fun e=>by
 obtain ⟨⟨o,ho⟩,_⟩:=G.sys
 have:=Heap.lt_size (G.base _ _ ho)
 rw [e] at this
 exact absurd this (by decide)
theorem St.alloc {s':Shared} {ob:AObj} {c:Addr} (G:St prog w B φ σ s) (hc:s.heap.get? c=none) (hk:∀ b o,s.heap.get? b=some o→s'.heap.get? b=some o) (r:ObjR prog w (φ++[c]) s'.heap c ob)
  (hcφ:c∉φ) (hcs:c≠sysModules) (hg:s'.gens=s.gens:=by rfl) (ho:s'.os=s.os:=by rfl):St prog w B (φ++[c]) (σ++[ob]) s':=by
 refine ⟨fun b o e=>hk b o (G.base b o e),fun a ha=>?_,?_,by simp [G.len],fun k a ob' h1 h2=>?_,hg.trans G.gens,ho.trans G.os,G.sys.1,fun h=>(List.mem_append.mp h).elim G.sys.2 fun h=>hcs (List.mem_singleton.mp h).symm⟩
 ·rcases List.mem_append.mp ha with h | h
  ·exact G.new a h
  ·obtain rfl:=List.mem_singleton.mp h;exact G.baseSize hc
 ·exact List.nodup_append.mpr ⟨G.nodup,by simp,fun a ha b hb e=>hcφ (by obtain rfl:=List.mem_singleton.mp hb;exact e ▸ ha)⟩
 ·by_cases hlt:k < φ.length
  ·rw [List.getElem?_append_left hlt] at h1
   rw [List.getElem?_append_left (G.len ▸ hlt)] at h2
   exact (G.objs k a ob' h1 h2).mono (List.prefix_append _ _) (fun a o e _=>hk a o e) fun o e=>hk a o e
  ·have h3:k=φ.length:=by
    have:=(List.getElem?_eq_some_iff.mp h1).1
    simp at this;(exact qBp hlt this)
   subst h3
   rw [List.getElem?_append_right (Nat.le_refl _)] at h1
   rw [G.len,List.getElem?_append_right (Nat.le_refl _)] at h2
   simp at h1 h2
   subst h1 h2
   exact r
theorem Step.alloc {s':Shared} {c:Addr} {D:List Addr} (hc:s.heap.get? c=none) (hk:∀ b o,s.heap.get? b=some o→s'.heap.get? b=some o):Step D φ s.heap (φ++[c]) s'.heap :=
 ⟨List.prefix_append _ _,fun a ha=>(List.mem_append.mp ha).imp id fun h=>by obtain rfl:=List.mem_singleton.mp h;exact hc,fun b o e _ _=>⟨o,hk b o e,.refl o⟩⟩
theorem St.update {s':Shared} {k:Nat} {c:Addr} {ob:AObj} (G:St prog w B φ σ s) (hc:φ[k]?=some c) (hs:Heap.SameBut c s.heap s'.heap) (r:ObjR prog w φ s'.heap c ob)
  (hg:s'.gens=s.gens:=by rfl) (ho:s'.os=s.os:=by rfl):St prog w B φ (σ.set k ob) s':=by
 have hcm:=List.mem_of_getElem? hc
 refine ⟨fun b o e=>hs.extBut b o (fun h=>G.sub e (h ▸ hcm)) (G.base b o e),G.new,G.nodup,by simp [G.len],fun j a ob' h1 h2=>?_,hg.trans G.gens,ho.trans G.os,G.sys⟩
 by_cases hj:j=k
 ·subst hj
  rw [hc] at h1;cases h1
  have hlt:j < σ.length:=G.len ▸ (List.getElem?_eq_some_iff.mp hc).1
  rw [List.getElem?_set_self hlt] at h2;cases h2
  exact r
 ·rw [List.getElem?_set_ne (Ne.symm hj)] at h2
  refine (G.objs j a ob' h1 h2).mono (List.prefix_refl _) (fun a o e hst=>hs.extBut a o (fun h=>?_) e) fun o e=>hs.extBut a o (fun h=>hj ?_) e
  ·exact G.notStill (h ▸ hcm) e hst
  ·subst h
   have e1:=List.getElem?_eq_some_iff.mp h1
   have e2:=List.getElem?_eq_some_iff.mp hc
   obtain ⟨l1,e1⟩:=e1
   obtain ⟨l2,e2⟩:=e2
   exact (List.getElem_inj G.nodup).mp (e1.trans e2.symm)
theorem Step.update {D:List Addr} {h h':Heap} {c:Addr} (hs:Heap.SameBut c h h') (hc:c∈φ):Step D φ h φ h' :=
 ⟨List.prefix_refl _,fun _ ha=>.inl ha,fun b o e hb _=>⟨o,hs.extBut b o (fun h=>hb (h ▸ hc)) e,.refl o⟩⟩
end st
end Mine
namespace Mine
open PySem PySem.Calls PyProof.Rows
noncomputable def Bnd (env:Env) (h:Heap) (x:Str) (val:Value):Prop :=
 (env.kindOf x=some .local∧∃ m,h.Ns env.locals m∧m x=some val)∨
 ((env.kindOf x=some .cell∨env.kindOf x=some .free)∧∃ c,env.cells.lookup x=some c∧h.IsCell c (some val))
noncomputable def fr (env:Env):List Addr:=env.locals :: env.cells.map (·.2)
noncomputable def FrOk (B:Shared) (φ:List Addr) (h:Heap) (e:Env):Prop :=
 e.scope.kind≠.module∧∃ L o es n,e.frame=some L∧L∉φ∧B.heap.get? L=none∧h.get? L=some o∧o.data=.dict es n
noncomputable def Frs (A:Around) (B:Shared) (φ:List Addr) (h:Heap):Prop:=∃ l,A.frames=some l∧∀ e∈l,FrOk B φ h e
theorem FrOk.thru {B:Shared} {φ φ':List Addr} {h h':Heap} {e:Env} (f:FrOk B φ h e) (hφ:∀ a∈φ',a∈φ∨h.get? a=none) (hk:∀ a o es n,h.get? a=some o→o.data=.dict es n→a∉φ→∃ o' es' n',h'.get? a=some o'∧o'.data=.dict es' n'):FrOk B φ' h' e:=by
 obtain ⟨h1,L,o,es,n,h2,h3,h4,h5,h6⟩:=f
 obtain ⟨o',es',n',h7,h8⟩:=hk L o es n h5 h6 h3
 refine ⟨h1,L,o',es',n',h2,fun hm=>?_,h4,h7,h8⟩
 rcases hφ L hm with h | h
 ·exact h3 h
 ·rw [h5] at h;cases h
theorem Frs.thru {A:Around} {B:Shared} {φ φ':List Addr} {h h':Heap} (f:Frs A B φ h) (hφ:∀ a∈φ',a∈φ∨h.get? a=none) (hk:∀ a o es n,h.get? a=some o→o.data=.dict es n→a∉φ→∃ o' es' n',h'.get? a=some o'∧o'.data=.dict es' n'):Frs A B φ' h':=by
 obtain ⟨l,h1,h2⟩:=f
 exact ⟨l,h1,fun e he=>(h2 e he).thru hφ hk⟩
theorem Frs.step {A:Around} {B:Shared} {φ φ':List Addr} {h h':Heap} (f:Frs A B φ h) (t:Step [] φ h φ' h'):Frs A B φ' h' :=
 f.thru t.fresh fun a o es n e hd hφ=>by
  obtain ⟨o',e',hs⟩:=t.keep a o e hφ (fun h=>nomatch h)
  exact ⟨o',es,n,e',hs.data.trans hd⟩
theorem Frs.at {A:Around} {B:Shared} {φ:List Addr} {h h':Heap} {c:Addr} (f:Frs A B φ h) (hs:∀ b o,b≠c→h.get? b=some o→h'.get? b=some o) (hc:(∃ o' es' n',h'.get? c=some o'∧o'.data=.dict es' n')∨∀ o,h.get? c=some o→NoD o):Frs A B φ h' :=
 f.thru (fun _ h=>.inl h) fun a o es n e hd _=>by
  by_cases ha:a=c
  ·subst ha
   rcases hc with hc | hc
   ·exact hc
   ·exact absurd hd (hc o e es n)
  ·exact ⟨o,es,n,hs a o ha e,hd⟩
theorem Frs.atφ {A:Around} {B:Shared} {φ:List Addr} {h h':Heap} {c:Addr} (f:Frs A B φ h) (hs:∀ b o,b≠c→h.get? b=some o→h'.get? b=some o) (hc:c∈φ):Frs A B φ h' :=
 f.thru (fun _ h=>.inl h) fun a o es n e hd ha=>⟨o,es,n,hs a o (fun h=>ha (h ▸ hc)) e,hd⟩
structure Loc (A:Around) (B:Shared) (env:Env) (ρ:List (Str×V)) (φ:List Addr) (h:Heap):Prop where
 kind:env.scope.kind=.function
 glob:env.globals=mainGlobals
 blt:env.builtins=builtinsNs
 ns:∃ m,h.Ns env.locals m
 own:∀ a∈fr env,a∉φ∧B.heap.get? a=none
 cells:∀ x c,(x,c)∈env.cells→∃ v,h.IsCell c v
 apart:env.cells.Pairwise fun x y=>x.2≠y.2
 val:∀ x v,ρ.lookup x=some v→∃ val,Bnd env h x val∧Val φ h v val
 frs:Frs A B φ h
 top:∃ e₀ r,A.frames=some (e₀ :: r)∧e₀.frame=env.frame
section
variable {prog:Program} {w:World} {B:Shared} {φ φ':List Addr} {σ σ':List AObj} {s s':Shared} {env:Env} {ρ ρ':List (Str×V)} {A:Around}
theorem Ns.upTo {h h':Heap} {a:Addr} {m:Str→Option Value} (n:h.Ns a m) (hk:∀ o,h.get? a=some o→∃ o',h'.get? a=some o'∧Sim o o'):h'.Ns a m:=by
 obtain ⟨o,es,ep,e,hd,r⟩:=n
 obtain ⟨o',e',hs⟩:=hk o e
 exact ⟨o',es,ep,e',hs.data.trans hd,r⟩
theorem IsCell.upTo {h h':Heap} {a:Addr} {v:Option Value} (n:h.IsCell a v) (hk:∀ o,h.get? a=some o→∃ o',h'.get? a=some o'∧Sim o o'):h'.IsCell a v:=by
 obtain ⟨o,e,hd⟩:=n
 obtain ⟨o',e',hs⟩:=hk o e
 exact ⟨o',e',hs.data.trans hd⟩
theorem mem_fr_cell {x:Str} {c:Addr} (h:(x,c)∈env.cells):c∈fr env:=List.mem_cons_of_mem _ (List.mem_map.mpr ⟨(x,c),h,rfl⟩)
theorem Loc.there {h:Heap} (L:Loc A B env ρ φ h) {a:Addr} (ha:a∈fr env):∃ o,h.get? a=some o∧¬ Still o:=by
 rcases List.mem_cons.mp ha with rfl | ha
 ·obtain ⟨m,o,es,ep,e,hd,_⟩:=L.ns
  exact ⟨o,e,notStill_dict hd⟩
 ·obtain ⟨⟨x,c⟩,hm,rfl⟩:=List.mem_map.mp ha
  obtain ⟨v,o,e,hd⟩:=L.cells x c hm
  exact ⟨o,e,notStill_cell hd⟩
theorem Loc.step {h':Heap} (L:Loc A B env ρ φ s.heap) (G:St prog w B φ σ s) (t:Step [] φ s.heap φ' h'):Loc A B env ρ φ' h':=by
 have hk:∀ a∈fr env,∀ o,s.heap.get? a=some o→∃ o',h'.get? a=some o'∧Sim o o':=fun a ha o e=>t.keep a o e (L.own a ha).1 (fun h=>nomatch h)
 refine ⟨L.kind,L.glob,L.blt,?_,fun a ha=>⟨fun h=>?_,(L.own a ha).2⟩,fun x c hm=>?_,L.apart,fun x v hx=>?_,L.frs.step t,L.top⟩
 ·obtain ⟨m,n⟩:=L.ns;exact ⟨m,Ns.upTo n (hk _ (.head _))⟩
 ·rcases t.fresh a h with h1 | h1
  ·exact (L.own a ha).1 h1
  ·obtain ⟨o,e,_⟩:=L.there ha;rw [e] at h1;cases h1
 ·obtain ⟨v,n⟩:=L.cells x c hm;exact ⟨v,IsCell.upTo n (hk _ (mem_fr_cell hm))⟩
 ·obtain ⟨val,hb,hv⟩:=L.val x v hx
  refine ⟨val,?_,hv.step G t⟩
  rcases hb with ⟨k,m,n,e⟩ | ⟨k,c,e,n⟩
  ·exact .inl ⟨k,m,Ns.upTo n (hk _ (.head _)),e⟩
  ·exact .inr ⟨k,c,e,IsCell.upTo n (hk _ (mem_fr_cell (mem_of_lookup e)))⟩
theorem Loc.weaken {h:Heap} (L:Loc A B env ρ φ h) (hs:∀ x v,ρ'.lookup x=some v→ρ.lookup x=some v):Loc A B env ρ' φ h :=
 ⟨L.kind,L.glob,L.blt,L.ns,L.own,L.cells,L.apart,fun x v hx=>L.val x v (hs x v hx),L.frs,L.top⟩
theorem fr_notStill {h:Heap} (L:Loc A B env ρ φ h):∀ a∈fr env,∀ o,h.get? a=some o→¬ Still o:=fun a ha o e=>by
 obtain ⟨o',e',hs⟩:=L.there ha
 rw [e'] at e;cases e;exact hs
end
noncomputable abbrev XT:=Value→List Addr→List AObj→Shared→Prop
section
variable (prog:Program) (w:World) (B:Shared)
inductive Post {α:Type} (D φ:List Addr) (s:Shared) (Q:α→List Addr→List AObj→Shared→Prop) (a:α) (s':Shared):Prop
 | mk:∀ φ' σ',Step D φ s.heap φ' s'.heap→St prog w B φ' σ' s'→Q a φ' σ' s'→Post D φ s Q a s'
inductive vQ (Q:V→List AObj→Prop) (v:Value) (φ':List Addr) (σ':List AObj) (s':Shared):Prop
 | mk:∀ x,Val φ' s'.heap x v→Q x σ'→vQ Q v φ' σ' s'
inductive vsQ (Q:List V→List AObj→Prop) (vs:List Value) (φ':List Addr) (σ':List AObj) (s':Shared):Prop
 | mk:∀ xs,Vals φ' s'.heap xs vs→Q xs σ'→vsQ Q vs φ' σ' s'
noncomputable def bQ {α:Type} (Q:α→List AObj→Prop):α→List Addr→List AObj→Shared→Prop:=fun b _ σ' _=>Q b σ'
noncomputable def W {α:Type} (A:Around) (t:Sem α) (φ:List Addr) (s:Shared) (Q:α→List Addr→List AObj→Shared→Prop) (X:XT):Prop :=
 wpAny (model prog w) A t (Post prog w B [] φ s Q) (Post prog w B [] φ s X) s
noncomputable def WE (A:Around) (env:Env) (e:Expr) (ρ:List (Str×V)) (σ:List AObj) (Q:V→List AObj→Prop) (X:XT):Prop :=
 ∀ φ s,St prog w B φ σ s→Loc A B env ρ φ s.heap→W prog w B A (eval e env) φ s (vQ Q) X
noncomputable def WT (A:Around) (env:Env) (e:Expr) (ρ:List (Str×V)) (σ:List AObj) (Q:Bool→List AObj→Prop) (X:XT):Prop :=
 ∀ φ s,St prog w B φ σ s→Loc A B env ρ φ s.heap→W prog w B A (isTrue e env (eval e env)) φ s (bQ Q) X
noncomputable def WEs (A:Around) (env:Env) (es:List Expr) (ρ:List (Str×V)) (σ:List AObj) (Q:List V→List AObj→Prop) (X:XT):Prop :=
 ∀ pos φ s,St prog w B φ σ s→Loc A B env ρ φ s.heap→W prog w B A (spliced (backTo pos (starEach es env))) φ s (vsQ Q) X
noncomputable def W1 {α:Type} (A:Around) (t:Value→Sem α) (x:V) (σ:List AObj) (Q:α→List Addr→List AObj→Shared→Prop) (X:XT):Prop :=
 ∀ φ s v,St prog w B φ σ s→Val φ s.heap x v→W prog w B A (t v) φ s Q X
noncomputable def W2 (A:Around) (t:Value→Value→Sem Value) (x y:V) (σ:List AObj) (Q:V→List AObj→Prop) (X:XT):Prop :=
 ∀ φ s v u,St prog w B φ σ s→Val φ s.heap x v→Val φ s.heap y u→W prog w B A (t v u) φ s (vQ Q) X
noncomputable def WC (A:Around) (f:Value) (xs:List V) (σ:List AObj) (Q:V→List AObj→Prop) (X:XT):Prop :=
 ∀ φ s vs,St prog w B φ σ s→Frs A B φ s.heap→Vals φ s.heap xs vs→W prog w B A (call f vs) φ s (vQ Q) X
end
section
variable {prog:Program} {w:World} {B:Shared} {φ φ₁:List Addr} {σ:List AObj} {s s₁:Shared} {env:Env} {ρ:List (Str×V)} {A:Around} {X:XT}
theorem Post.trans {α:Type} {Q:α→List Addr→List AObj→Shared→Prop} {a:α} {s':Shared} (t:Step [] φ s.heap φ₁ s₁.heap) (h:Post prog w B [] φ₁ s₁ Q a s'):Post prog w B [] φ s Q a s':=by
 obtain ⟨φ',σ',t',G',q⟩:=h
 exact ⟨φ',σ',t.trans0 t',G',q⟩
theorem W.use {α:Type} {t:Sem α} {Q:α→List Addr→List AObj→Shared→Prop} {R:α→Shared→Prop} (h:W prog w B A t φ₁ s₁ Q X) (t₁:Step [] φ s.heap φ₁ s₁.heap)
  (k:∀ a s₂ φ₂ σ₂,Step [] φ₁ s₁.heap φ₂ s₂.heap→Step [] φ s.heap φ₂ s₂.heap→St prog w B φ₂ σ₂ s₂→Q a φ₂ σ₂ s₂→R a s₂):wpAny (model prog w) A t R (Post prog w B [] φ s X) s₁ :=
 wpAny_mono h (fun a s₂ ⟨φ₂,σ₂,t₂,G₂,q⟩=>k a s₂ φ₂ σ₂ t₂ (t₁.trans0 t₂) G₂ q) fun e s' hx=>hx.trans t₁
theorem W.useV {t:Sem Value} {Q:V→List AObj→Prop} {R:Value→Shared→Prop} (h:W prog w B A t φ₁ s₁ (vQ Q) X) (t₁:Step [] φ s.heap φ₁ s₁.heap)
  (k:∀ a s₂ φ₂ σ₂,Step [] φ₁ s₁.heap φ₂ s₂.heap→Step [] φ s.heap φ₂ s₂.heap→St prog w B φ₂ σ₂ s₂→∀ x,Val φ₂ s₂.heap x a→Q x σ₂→R a s₂):wpAny (model prog w) A t R (Post prog w B [] φ s X) s₁ :=
 h.use t₁ fun a s₂ φ₂ σ₂ t₂ t G q=>let ⟨x,h,q⟩:=q;k a s₂ φ₂ σ₂ t₂ t G x h q
theorem W.last {α:Type} {t:Sem α} {Q:α→List Addr→List AObj→Shared→Prop} (h:W prog w B A t φ₁ s₁ Q X) (t₁:Step [] φ s.heap φ₁ s₁.heap):wpAny (model prog w) A t (Post prog w B [] φ s Q) (Post prog w B [] φ s X) s₁ :=
 h.use t₁ fun _ _ _ _ _ t G q=>⟨_,_,t,G,q⟩
theorem Post.here {α:Type} {Q:α→List Addr→List AObj→Shared→Prop} {a:α} (G:St prog w B φ σ s) (q:Q a φ σ s):Post prog w B [] φ s Q a s:=⟨φ,σ,.refl ..,G,q⟩
theorem St.toks (G:St prog w B φ σ s) (t:Nat):St prog w B φ σ { s with toks:=t }:=G.keeps fun _ _ e=>e
theorem Post.tok {α:Type} {Q:α→List Addr→List AObj→Shared→Prop} {a:α} {t:Nat} (G:St prog w B φ σ s) (q:Q a φ σ { s with toks:=t }):Post prog w B [] φ s Q a { s with toks:=t }:=⟨φ,σ,.refl ..,G.toks t,q⟩
theorem W.mono {α:Type} {t:Sem α} {Q Q':α→List Addr→List AObj→Shared→Prop} (h:W prog w B A t φ s Q X) (hq:∀ a φ' σ' s',Q a φ' σ' s'→Q' a φ' σ' s'):W prog w B A t φ s Q' X :=
 wpAny_mono h (fun _ _ ⟨φ',σ',t,G,q⟩=>⟨φ',σ',t,G,hq _ _ _ _ q⟩) fun _ _ x=>x
theorem WC.mono {f:Value} {xs:List V} {Q Q':V→List AObj→Prop} (h:WC prog w B A f xs σ Q X) (hq:∀ x σ',Q x σ'→Q' x σ'):WC prog w B A f xs σ Q' X :=
 fun φ s vs G FR hv=>(h φ s vs G FR hv).mono fun _ _ _ _ ⟨x,hx,q⟩=>⟨x,hx,hq _ _ q⟩
theorem WE.mono {e:Expr} {Q Q':V→List AObj→Prop} (h:WE prog w B A env e ρ σ Q X) (hq:∀ x σ',Q x σ'→Q' x σ'):WE prog w B A env e ρ σ Q' X :=
 fun φ s G L=>(h φ s G L).mono fun _ _ _ _ ⟨x,hx,q⟩=>⟨x,hx,hq _ _ q⟩
theorem E_int {i:Int} {k:Nat} {pos:Pos} {Q:V→List AObj→Prop} (q:Q (.int i) σ):WE prog w B A env (.Constant (.int i) k pos) ρ σ Q X :=
 fun φ s G _=>wpAny_Constant_int (Post.tok G ⟨.int i,by rw [Val];exact ⟨_,rfl⟩,q⟩)
theorem E_str {x:Str} {k:Nat} {pos:Pos} {Q:V→List AObj→Prop} (q:Q (.str x) σ):WE prog w B A env (.Constant (.str x) k pos) ρ σ Q X :=
 fun φ s G _=>Calls.Constant_str (Post.tok G ⟨.str x,by rw [Val];exact ⟨_,rfl⟩,q⟩)
theorem E_bool {b:Bool} {k:Nat} {pos:Pos} {Q:V→List AObj→Prop} (q:Q (.bool b) σ):WE prog w B A env (.Constant (.bool b) k pos) ρ σ Q X :=
 fun φ s G _=>wpAny_Constant_bool (Post.here G ⟨.bool b,by rw [Val],q⟩)
theorem E_none {k:Nat} {pos:Pos} {Q:V→List AObj→Prop} (q:Q .none σ):WE prog w B A env (.Constant .none k pos) ρ σ Q X :=
 fun φ s G _=>fun _ _ _=>(Post.here G ⟨.none,by rw [Val],q⟩:Post prog w B [] φ s (vQ Q) .none s)
theorem loadName_Bnd {x:Str} {val:Value} {Q:Value→Shared→Prop} {E:Value→Shared→Prop} {M:Model} (hk:env.scope.kind=.function) (hb:Bnd env s.heap x val) (q:Q val s) (hn:(x == ("__classdict__":Str))=false:=by decide) :
  wpAny M A (loadName env x) Q E s:=by
 rcases hb with ⟨k,m,n,e⟩ | ⟨k | k,c,e,n⟩
 ·exact wpAny_loadName_local hk k n e q
 ·exact wpAny_loadName_cell hk k e n q
 ·exact wpAny_loadName_free hk k e n q hn
theorem E_name {x:Str} {pos:Pos} {v:V} {Q:V→List AObj→Prop} (hx:ρ.lookup x=some v) (q:Q v σ) (hd:(x == ("__debug__":Str))=false:=by decide) (hn:(x == ("__classdict__":Str))=false:=by decide) :
  WE prog w B A env (.Name x pos) ρ σ Q X:=fun φ s G L=>by
 obtain ⟨val,hb,hv⟩:=L.val x v hx
 exact wpAny_Name (loadName_Bnd L.kind hb (Post.here G ⟨v,hv,q⟩) hn) hd
theorem E_global {x:Str} {pos:Pos} {mg:Str→Option Value} {v:Value} {y:V} {Q:V→List AObj→Prop} (hg:B.heap.Ns mainGlobals mg) (hv:mg x=some v) (hy:Val [] B.heap y v) (hx:env.kindOf x=some .globalImplicit) (q:Q y σ)
  (hd:(x == ("__debug__":Str))=false:=by decide):WE prog w B A env (.Name x pos) ρ σ Q X:=fun φ s G L=>by
 refine Name_function_global L.kind hx (loadGlobal_global (mg:=mg) (L.glob ▸ hg.keeps G.base) hv (Post.here G ⟨y,?_,q⟩)) hd
 exact Val.mono (List.nil_prefix) (fun a o e _=>G.base a o e) y hy
theorem E_builtin {x:Str} {pos:Pos} {mg mb:Str→Option Value} {v:Value} {Q:V→List AObj→Prop} (hg:B.heap.Ns mainGlobals mg) (hmiss:mg x=none) (hb:B.heap.Ns builtinsNs mb) (hv:mb x=some v) (hx:env.kindOf x=some .globalImplicit) (q:Q (.raw v) σ)
  (hd:(x == ("__debug__":Str))=false:=by decide):WE prog w B A env (.Name x pos) ρ σ Q X:=fun φ s G L=>by
 refine Name_function_global L.kind hx (loadGlobal_builtin (mg:=mg) (mb:=mb) (L.glob ▸ hg.keeps G.base) hmiss (L.blt ▸ hb.keeps G.base) hv (Post.here G ⟨.raw v,by rw [Val],q⟩)) hd
theorem E_bin {l r:Expr} {op:Operator} {pos:Pos} {Q:V→List AObj→Prop}
  (h:WE prog w B A env l ρ σ (fun x σ₁=>WE prog w B A env r ρ σ₁ (fun y σ₂=>W2 prog w B A (binaryOp op) x y σ₂ Q X) X) X):WE prog w B A env (.BinOp l op r pos) ρ σ Q X:=fun φ s G L =>
 wpAny_BinOp ((h φ s G L).useV (.refl ..) fun a s₁ φ₁ σ₁ t₁ _ G₁ x hx h₁=>(h₁ φ₁ s₁ G₁ (L.step G t₁)).useV t₁ fun b s₂ φ₂ σ₂ t₂ t G₂ y hy h₂=>(h₂ φ₂ s₂ a b G₂ (hx.step G₁ t₂) hy).last t)
theorem E_cmp1 {l r:Expr} {op:CmpOp} {pos:Pos} {Q:V→List AObj→Prop}
  (h:WE prog w B A env l ρ σ (fun x σ₁=>WE prog w B A env r ρ σ₁ (fun y σ₂=>W2 prog w B A (compareOp op) x y σ₂ Q X) X) X) (hm:behindInMarks op r=false:=by with_unfolding_all rfl) :
  WE prog w B A env (.Compare l [op] [r] pos) ρ σ Q X:=fun φ s G L =>
 wpAny_Compare1 ((h φ s G L).useV (.refl ..) fun a s₁ φ₁ σ₁ t₁ _ G₁ x hx h₁=>(h₁ φ₁ s₁ G₁ (L.step G t₁)).useV t₁ fun b s₂ φ₂ σ₂ t₂ t G₂ y hy h₂=>(h₂ φ₂ s₂ a b G₂ (hx.step G₁ t₂) hy).last t) hm
theorem E_un {x:Expr} {op:UnaryOp} {pos:Pos} {Q:V→List AObj→Prop}
  (h:WE prog w B A env x ρ σ (fun x σ₁=>W1 prog w B A (unaryOp op) x σ₁ (vQ Q) X) X):WE prog w B A env (.UnaryOp op x pos) ρ σ Q X:=fun φ s G L =>
 wpAny_UnaryOp ((h φ s G L).useV (.refl ..) fun a s₁ φ₁ σ₁ t₁ _ G₁ x hx h₁=>(h₁ φ₁ s₁ a G₁ hx).last t₁)
theorem E_ifexp {test body orelse:Expr} {pos:Pos} {Q:V→List AObj→Prop}
  (h:WT prog w B A env test ρ σ (fun b σ₁=>if b then WE prog w B A env body ρ σ₁ Q X else WE prog w B A env orelse ρ σ₁ Q X) X):WE prog w B A env (.IfExp test body orelse pos) ρ σ Q X:=fun φ s G L =>
 wpAny_IfExp ((h φ s G L).use (.refl ..) fun b s₁ φ₁ σ₁ t₁ _ G₁ h₁=>by
  cases b
  ·exact (h₁ φ₁ s₁ G₁ (L.step G t₁)).last t₁
  ·exact (h₁ φ₁ s₁ G₁ (L.step G t₁)).last t₁)
theorem T_value {e:Expr} {Q:Bool→List AObj→Prop} (h:WE prog w B A env e ρ σ (fun v σ₁=>W1 prog w B A truthy v σ₁ (bQ Q) X) X)
  (he:∀ whole,isTrue e env whole=(do let v ← whole;standAt e.pos;holding [v] (truthy v)):=by intro _;with_unfolding_all rfl):WT prog w B A env e ρ σ Q X:=fun φ s G L =>
 wpAny_isTrue_value ((h φ s G L).useV (.refl ..) fun a s₁ φ₁ σ₁ t₁ _ G₁ x hx h₁=>(h₁ φ₁ s₁ a G₁ hx).last t₁) (he _)
theorem T_not {e:Expr} {pos:Pos} {Q:Bool→List AObj→Prop} (h:WT prog w B A env e ρ σ (fun b σ₁=>Q (!b) σ₁) X):WT prog w B A env (.UnaryOp .Not e pos) ρ σ Q X:=fun φ s G L =>
 wpAny_isTrue_Not ((h φ s G L).use (.refl ..) fun b s₁ φ₁ σ₁ t₁ _ G₁ h₁=>⟨_,_,t₁,G₁,h₁⟩)
theorem T_cmp1 {l r:Expr} {op:CmpOp} {pos:Pos} {Q:Bool→List AObj→Prop}
  (h:WE prog w B A env l ρ σ (fun x σ₁=>WE prog w B A env r ρ σ₁ (fun y σ₂=>W2 prog w B A (compareOp op) x y σ₂ (fun z σ₃=>W1 prog w B A truthy z σ₃ (bQ Q) X) X) X) X) (hm:behindInMarks op r=false:=by with_unfolding_all rfl) :
  WT prog w B A env (.Compare l [op] [r] pos) ρ σ Q X:=fun φ s G L =>
 wpAny_isTrue_Compare1 ((h φ s G L).useV (.refl ..) fun a s₁ φ₁ σ₁ t₁ _ G₁ x hx h₁=>(h₁ φ₁ s₁ G₁ (L.step G t₁)).useV t₁ fun b s₂ φ₂ σ₂ t₂ t G₂ y hy h₂=>(h₂ φ₂ s₂ a b G₂ (hx.step G₁ t₂) hy).use t
  fun c s₃ φ₃ σ₃ t₃ t' G₃ ⟨z,hz,h₃⟩=>(h₃ φ₃ s₃ c G₃ hz).last t') hm
noncomputable def WTs (prog:Program) (w:World) (B:Shared) (A:Around) (env:Env) (op:BoolOp) (es:List Expr) (ρ:List (Str×V)) (σ:List AObj) (Q:Bool→List AObj→Prop) (X:XT):Prop :=
 ∀ φ s,St prog w B φ σ s→Loc A B env ρ φ s.heap→W prog w B A (allTrue op es env) φ s (bQ Q) X
theorem T_bool {op:BoolOp} {es:List Expr} {pos:Pos} {Q:Bool→List AObj→Prop} (h:WTs prog w B A env op es ρ σ Q X):WT prog w B A env (.BoolOp op es pos) ρ σ Q X:=fun φ s G L=>wpAny_isTrue_BoolOp (h φ s G L)
theorem Ts_and_nil {Q:Bool→List AObj→Prop} (q:Q true σ):WTs prog w B A env .And [] ρ σ Q X:=fun φ s G _=>wpAny_allTrue_And_nil (Post.here G q)
theorem Ts_or_nil {Q:Bool→List AObj→Prop} (q:Q false σ):WTs prog w B A env .Or [] ρ σ Q X:=fun φ s G _=>wpAny_allTrue_Or_nil (Post.here G q)
theorem Ts_and {e:Expr} {es:List Expr} {Q:Bool→List AObj→Prop} (h:WT prog w B A env e ρ σ (fun b σ₁=>if b then WTs prog w B A env .And es ρ σ₁ Q X else Q false σ₁) X):WTs prog w B A env .And (e :: es) ρ σ Q X:=fun φ s G L =>
 wpAny_allTrue_And_cons ((h φ s G L).use (.refl ..) fun b s₁ φ₁ σ₁ t₁ _ G₁ h₁=>by
  cases b
  ·exact ⟨_,_,t₁,G₁,h₁⟩
  ·exact (h₁ φ₁ s₁ G₁ (L.step G t₁)).last t₁)
theorem Ts_or {e:Expr} {es:List Expr} {Q:Bool→List AObj→Prop} (h:WT prog w B A env e ρ σ (fun b σ₁=>if b then Q true σ₁ else WTs prog w B A env .Or es ρ σ₁ Q X) X):WTs prog w B A env .Or (e :: es) ρ σ Q X:=fun φ s G L =>
 wpAny_allTrue_Or_cons ((h φ s G L).use (.refl ..) fun b s₁ φ₁ σ₁ t₁ _ G₁ h₁=>by
  cases b
  ·exact (h₁ φ₁ s₁ G₁ (L.step G t₁)).last t₁
  ·exact ⟨_,_,t₁,G₁,h₁⟩)
theorem En {Q:List V→List AObj→Prop} (q:Q [] σ):WEs prog w B A env [] ρ σ Q X:=fun pos φ s G _=>spliced_nil (Post.here G ⟨[],.nil,q⟩)
theorem Ec {e:Expr} {es:List Expr} {Q:List V→List AObj→Prop} (h:WE prog w B A env e ρ σ (fun x σ₁=>WEs prog w B A env es ρ σ₁ (fun xs σ₂=>Q (x :: xs) σ₂) X) X)
  (hs:∀ r,starEach (e :: r) env=(false,eval e env) :: starEach r env:=by intro _;with_unfolding_all rfl):WEs prog w B A env (e :: es) ρ σ Q X:=fun pos φ s G L=>by
 rw [hs]
 show wpAny _ _ (spliced ((false,_) :: backTo pos (starEach es env))) _ _ _
 refine spliced_cons ?_
 show wpAny _ _ (eval e env) _ _ _
 refine (h φ s G L).useV (.refl ..) fun a s₁ φ₁ σ₁ t₁ _ G₁ x hx h₁=>?_
 exact (h₁ pos φ₁ s₁ G₁ (L.step G t₁)).use t₁ fun vs s₂ φ₂ σ₂ t₂ t G₂ ⟨xs,hxs,q⟩=>⟨_,_,t,G₂,x :: xs,.cons (hx.step G₁ t₂) hxs,q⟩
theorem E_tuple {es:List Expr} {k:Nat} {pos:Pos} {Q:V→List AObj→Prop} (h:WEs prog w B A env es ρ σ (fun xs σ₁=>xs.length≤sizeLine∧Q (.tup xs) σ₁) X):WE prog w B A env (.Tuple es k pos) ρ σ Q X:=fun φ s G L =>
 wpAny_Tuple_spliced ((h pos φ s G L).use (.refl ..) fun vs s₁ φ₁ σ₁ t₁ _ G₁ ⟨xs,hxs,hl,q⟩=>⟨hxs.length ▸ hl,by
  have hk:∀ b o,s₁.heap.get? b=some o→(s₁.heap.push { cls:=.type "tuple",data:=.seq vs.toArray }).get? b=some o:=fun b o e=>Heap.get?_push_of_some _ e
  refine ⟨φ₁,σ₁,t₁.trans0 (.of_keeps hk),G₁.keeps hk,.tup xs,?_,q⟩
  rw [Val]
  exact ⟨_,vs.toArray,rfl,⟨_,Heap.get?_push_size _ rfl,rfl,_,rfl⟩,by simpa using hxs.step G₁ (.of_keeps hk)⟩⟩)
theorem E_list {es:List Expr} {pos:Pos} {Q:V→List AObj→Prop} (h:WEs prog w B A env es ρ σ (fun xs σ₁=>xs.length≤sizeLine∧Q (.ref σ₁.length) (σ₁++[.list xs])) X):WE prog w B A env (.List es pos) ρ σ Q X:=fun φ s G L =>
 wpAny_List_spliced ((h pos φ s G L).use (.refl ..) fun vs s₁ φ₁ σ₁ t₁ _ G₁ ⟨xs,hxs,hl,q⟩=>⟨hxs.length ▸ hl,by
  have hk:∀ b o,s₁.heap.get? b=some o→(s₁.heap.push { cls:=.type "list",data:=.seq vs.toArray }).get? b=some o:=fun b o e=>Heap.get?_push_of_some _ e
  have hc:=get?_size s₁.heap
  have t₂:Step [] φ₁ s₁.heap (φ₁++[s₁.heap.objs.size]) (s₁.heap.push { cls:=.type "list",data:=.seq vs.toArray }):=Step.alloc (s':={ s₁ with heap:=s₁.heap.push { cls:=.type "list",data:=.seq vs.toArray } }) hc hk
  refine ⟨φ₁++[s₁.heap.objs.size],σ₁++[.list xs],t₁.trans0 t₂,G₁.alloc (ob:=.list xs) hc hk ⟨vs.toArray,0,Heap.get?_push_size _ rfl,by simpa using hxs.step G₁ t₂⟩ G₁.fresh G₁.sizeNe,.ref σ₁.length,?_,q⟩
  rw [Val,← G₁.len]
  exact ⟨_,rfl,by simp⟩⟩)
end
end Mine
namespace Mine
open PySem PySem.Calls PyProof.Rows
theorem dict_mapFields (f:Array Value→Array Value) (o:Obj):(Obj.mapFields f o).dict=o.dict:=by
 obtain ⟨c,d,dt,sl⟩:=o
 cases dt <;> rfl
noncomputable def TbOk (σ:List AObj) (t:Option Nat):Prop:=∀ k,t=some k→σ[k]?=some .tb
inductive xQ (R:Addr→List AObj→Prop) (e:Value) (φ':List Addr) (σ':List AObj) (s':Shared):Prop
 | mk:∀ C t τ junk a,σ'=τ++.exc C t :: junk→TbOk σ' t→e=.ref a→φ'[τ.length]?=some a→R C τ→xQ R e φ' σ' s'
noncomputable def xL (A:Around) (B:Shared) (env:Env) (l:List (Str×V)) (X:XT):XT:=fun e φ' σ' s'=>X e φ' σ' s'∧Loc A B env l φ' s'.heap
section
variable {prog:Program} {w:World} {B:Shared} {φ φ₁:List Addr} {σ τ junk:List AObj} {s s₁:Shared} {env:Env} {ρ:List (Str×V)} {A:Around} {X:XT} {C:Addr} {t:Option Nat} {ea:Addr} {E:Value→Shared→Prop}
theorem St.butL {s':Shared} {own:List Addr} (G:St prog w B φ σ s) (hs:∀ b o,b∉own→s.heap.get? b=some o→s'.heap.get? b=some o) (hc:∀ c∈own,c∉φ) (hb:∀ c∈own,B.heap.get? c=none) (hn:∀ c∈own,∀ o,s.heap.get? c=some o→¬ Still o)
  (hg:s'.gens=s.gens:=by rfl) (ho:s'.os=s.os:=by rfl):St prog w B φ σ s':=by
 refine ⟨fun b o e=>hs b o (fun h=>by rw [hb b h] at e;cases e) (G.base b o e),G.new,G.nodup,G.len,fun k a ob h1 h2=>?_,hg.trans G.gens,ho.trans G.os,G.sys⟩
 refine (G.objs k a ob h1 h2).mono (List.prefix_refl _) (fun a o e hst=>hs a o (fun h=>hn a h o e hst) e) fun o e=>hs a o (fun h=>hc a h (List.mem_of_getElem? h1)) e
theorem FrOk.fun_ {h:Heap}:∀ {l:List Env},(∀ e∈l,FrOk B φ h e)→h.FunFrames B.heap l
 | [],_=>trivial
 | e :: r,f=>by
  obtain ⟨h1,L,o,es,n,h2,h3,h4,h5,h6⟩:=f e (.head _)
  exact ⟨h1,⟨L,o,h2,h4,h5,fun vs q=>by rw [h6] at q;cases q⟩,FrOk.fun_ fun e he=>f e (.tail _ he)⟩
theorem frameOf_W {Q:Value→Shared→Prop} (G:St prog w B φ σ s) (L:Loc A B env ρ φ s.heap)
  (k:∀ F h',env.frame=some F→Step [] φ s.heap φ h'→St prog w B φ σ { s with heap:=h' }→Q (.ref F) { s with heap:=h' }):wpAny (model prog w) A (frameOf env) Q E s:=by
 obtain ⟨l,hl,hf⟩:=L.frs
 obtain ⟨e₀,r,h0,h1⟩:=L.top
 rw [hl] at h0;cases h0
 obtain ⟨_,F,o,es,n,hF,_⟩:=hf e₀ (.head _)
 unfold PySem.frameOf
 refine wpAny_bind (wpAny_frameEnvs hl ?_)
 have hdw:((e₀ :: r).dropWhile fun x=>x.frame != env.frame)=e₀ :: r:=by simp [List.dropWhile,h1]
 rw [hdw]
 unfold frameObject
 refine wpAny_bind (wpAny_bind (wpAny_readyFrames_fun (FrOk.fun_ hf) fun h₁ hs=>wpAny_pure ?_))
 rw [hF]
 have hm:∀ c∈(e₀ :: r).filterMap (·.frame),c∉φ∧B.heap.get? c=none∧∃ o es n,s.heap.get? c=some o∧o.data=.dict es n:=fun c hc=>by
  obtain ⟨e,he,hc⟩:=List.mem_filterMap.mp hc
  obtain ⟨_,L,o,es,n,h2,h3,h4,h5,h6⟩:=hf e he
  rw [h2] at hc;cases hc
  exact ⟨h3,h4,o,es,n,h5,h6⟩
 refine wpAny_pure (k F h₁ (h1 ▸ hF) ⟨List.prefix_refl _,fun _ h=>.inl h,fun b o e h1 _=>?_⟩ (G.butL (s':={ s with heap:=h₁ }) (fun b o hb e=>(hs.2.1 b hb).trans e) (fun c hc=>(hm c hc).1) (fun c hc=>(hm c hc).2.1) fun c hc o e=>?_))
 ·by_cases hb:b∈(e₀ :: r).filterMap (·.frame)
  ·obtain ⟨_,_,o',es,n,e',hd⟩:=hm b hb
   rw [e'] at e;cases e
   obtain ⟨sl,e2⟩:=hs.2.2 b _ e'
   exact ⟨_,e2,.inr ⟨fun h=>h es n hd,rfl,rfl,rfl⟩⟩
  ·exact ⟨o,(hs.2.1 b hb).trans e,.refl o⟩
 ·obtain ⟨_,_,o',es,n,e',hd⟩:=hm c hc
  rw [e'] at e;cases e
  exact notStill_dict hd
theorem St.exc_ (G:St prog w B φ (τ++.exc C t :: junk) s) (ha:φ[τ.length]?=some ea):ObjR prog w φ s.heap ea (.exc C t) :=
 G.objs _ _ _ ha (by simp)
theorem idx_up {k:Nat} {a:Addr} (c:Addr) (h:φ[k]?=some a):(φ++[c])[k]?=some a:=by
 rw [List.getElem?_append_left (List.getElem?_eq_some_iff.mp h).1];exact h
theorem note_tail {Q:Unit→Shared→Prop} {head:Value} {b:Bool} {F:Addr} (hF:env.frame=some F) (G:St prog w B φ (τ++.exc C t :: junk) s) (L:Loc A B env ρ φ s.heap) (ha:φ[τ.length]?=some ea)
  (k:∀ φ' t' junk' h',Step [] φ s.heap φ' h'→TbOk (τ++.exc C (some t') :: junk') (some t')→φ'[τ.length]?=some ea→St prog w B φ' (τ++.exc C (some t') :: junk') { s with heap:=h' }→Q () { s with heap:=h' }) :
  wpAny (model prog w) A (do setField (.ref ea) 1 (← EntryCells.newEntry head (← frameOf env) .none (rawInt F) .none (← entryPlaceOf F b))) Q E s:=by
 refine wpAny_bind (frameOf_W G L fun F' h₁ hF' t₁ G₁=>?_)
 rw [hF] at hF';cases hF'
 refine wpAny_bind (wpAny_entryPlaceOf fun pl hpl=>?_)
 unfold EntryCells.newEntry newFields
 refine wpAny_bind (wpAny_newObj_type ?_ (hpl.sizeOk5 _ _ _ _ _))
 obtain ⟨o,vs,e1,hc,hd,ht⟩:=G₁.exc_ ha
 dsimp only at e1
 have hsz:1 < vs.size:=by
  cases t with
  | none=>exact (Array.getElem?_eq_some_iff.mp ht).1
  | some j=>obtain ⟨T,ht,_⟩:=ht;exact (Array.getElem?_eq_some_iff.mp ht).1
 generalize hob:({ cls:=.type "traceback",dict:=none,data:=.fields ([head,.ref F,.none,rawInt F,.none]++(if pl.isEmpty then List.replicate 6 Value.none else pl)).toArray }:Obj)=ob
 have hk2:∀ b o,h₁.get? b=some o→(h₁.push ob).get? b=some o:=fun b o e=>Heap.get?_push_of_some _ e
 have hnew:(h₁.push ob).get? h₁.objs.size=some ob:=Heap.get?_push_size _ (by subst hob;rfl)
 have G₂:St prog w B (φ++[h₁.objs.size]) (τ++.exc C t :: junk++[.tb]) { s with heap:=h₁.push ob } :=
  G₁.alloc (s':={ s with heap:=h₁.push ob }) (get?_size _) hk2 (by subst hob;exact ⟨_,_,rawInt F,hnew,rfl,rfl,by simp⟩) G₁.fresh G₁.sizeNe
 have t₂:Step [] φ h₁ (φ++[h₁.objs.size]) (h₁.push ob):=Step.alloc (s:={ s with heap:=h₁ }) (s':={ s with heap:=h₁.push ob }) (get?_size _) hk2
 have ha2:=idx_up h₁.objs.size ha
 have he2:=hk2 _ _ e1
 refine wpAny_setField he2 hd hsz ?_
 have hd3:=Obj.data_mapFields hd (·.setIfInBounds 1 (Value.ref h₁.objs.size))
 have he3:=Heap.get?_update_self (Obj.mapFields (·.setIfInBounds 1 (Value.ref h₁.objs.size))) he2 (Obj.isFreed_of_fields hd3)
 have hsb:Heap.SameBut ea (h₁.push ob) ((h₁.push ob).update ea (Obj.mapFields (·.setIfInBounds 1 (Value.ref h₁.objs.size)))):=Heap.SameBut.update ..
 have hlen:φ.length=(τ++AObj.exc C t :: junk).length:=G.len
 have hidx:(φ++[h₁.objs.size])[(τ++AObj.exc C t :: junk).length]?=some h₁.objs.size:=by rw [← hlen];simp
 have G₃:=G₂.update (s':={ s with heap:=(h₁.push ob).update ea (Obj.mapFields (·.setIfInBounds 1 (Value.ref h₁.objs.size))) }) (ob:=.exc C (some (τ++AObj.exc C t :: junk).length)) ha2 hsb
  ⟨_,_,he3,⟨(Obj.cls_mapFields _ _).trans hc.1,(dict_mapFields _ _).trans hc.2⟩,hd3,_,by simp [hsz],hidx⟩
 have es:(τ++AObj.exc C t :: junk++[AObj.tb]).set τ.length (.exc C (some (τ++AObj.exc C t :: junk).length))=τ++.exc C (some (τ++AObj.exc C t :: junk).length) :: (junk++[.tb]):=by
  rw [List.append_assoc,List.set_append_right _ _ (Nat.le_refl _),Nat.sub_self];rfl
 rw [es] at G₃
 refine k _ _ _ _ (t₁.trans0 (t₂.trans0 (Step.update hsb (List.mem_of_getElem? ha2)))) (fun j hj=>?_) ha2 G₃
 cases hj
 rw [List.getElem?_append_right (by simp)]
 simp [Nat.add_sub_cancel_left]
theorem note_W {Q:Unit→Shared→Prop} (G:St prog w B φ (τ++.exc C t :: junk) s) (htb:TbOk (τ++.exc C t :: junk) t) (L:Loc A B env ρ φ s.heap) (ha:φ[τ.length]?=some ea)
  (k:∀ φ' t' junk' h',Step [] φ s.heap φ' h'→TbOk (τ++.exc C (some t') :: junk') (some t')→φ'[τ.length]?=some ea→St prog w B φ' (τ++.exc C (some t') :: junk') { s with heap:=h' }→Q () { s with heap:=h' }) :
  wpAny (model prog w) A (noteFrame (.ref ea) env) Q E s:=by
 have hF:∃ F,env.frame=some F:=by
  obtain ⟨l,hl,hf⟩:=L.frs
  obtain ⟨e₀,r,h0,h1⟩:=L.top
  rw [hl] at h0;cases h0
  obtain ⟨_,F,_,_,_,hF,_⟩:=hf e₀ (.head _)
  exact ⟨F,h1 ▸ hF⟩
 obtain ⟨F,hF⟩:=hF
 obtain ⟨o,vs,e1,hc,hd,ht⟩:=G.exc_ ha
 unfold noteFrame
 simp only [hF]
 cases t with
 | none =>
  refine wpAny_bind (wpAny_field e1 hd ht ?_)
  rw [if_neg (by decide)]
  exact note_tail hF G L ha k
 | some j =>
  obtain ⟨T,ht,hT⟩:=ht
  refine wpAny_bind (wpAny_field e1 hd ht ?_)
  rw [if_pos (show (Value.ref T != Value.none)=true from by simp)]
  obtain ⟨oT,ts,x,eT,hcT,hdT,h3⟩:=G.objs _ _ _ hT (htb j rfl)
  refine wpAny_bind (wpAny_field eT hdT h3 ?_)
  by_cases hx:(x == rawInt F)=true
  ·rw [if_pos hx]
   exact wpAny_pure (k φ j junk s.heap (.refl ..) htb ha G)
  ·rw [if_neg hx]
   refine wpAny_bind (wpAny_setField eT hdT (Array.getElem?_eq_some_iff.mp h3).1 ?_)
   have hd3:=Obj.data_mapFields hdT (·.setIfInBounds 3 Value.none)
   have he3:=Heap.get?_update_self (Obj.mapFields (·.setIfInBounds 3 Value.none)) eT (Obj.isFreed_of_fields hd3)
   have hsb:Heap.SameBut T s.heap (s.heap.update T (Obj.mapFields (·.setIfInBounds 3 Value.none))):=Heap.SameBut.update ..
   have G₁:=G.update (s':={ s with heap:=s.heap.update T (Obj.mapFields (·.setIfInBounds 3 Value.none)) }) (ob:=.tb) hT hsb ⟨_,_,.none,he3,(Obj.cls_mapFields _ _).trans hcT,hd3,by simp [(Array.getElem?_eq_some_iff.mp h3).1]⟩
   have es:(τ++AObj.exc C (some j) :: junk).set j .tb=τ++AObj.exc C (some j) :: junk:=by
    have hj:=htb j rfl
    obtain ⟨hlt,he⟩:=List.getElem?_eq_some_iff.mp hj
    refine List.ext_getElem? fun i=>?_
    by_cases hi:i=j
    ·subst hi;rw [List.getElem?_set_self hlt,hj]
    ·rw [List.getElem?_set_ne (Ne.symm hi)]
   rw [es] at G₁
   have t₁:Step [] φ s.heap φ (s.heap.update T (Obj.mapFields (·.setIfInBounds 3 Value.none))):=Step.update hsb (List.mem_of_getElem? hT)
   exact note_tail (s:={ s with heap:=s.heap.update T (Obj.mapFields (·.setIfInBounds 3 Value.none)) }) hF G₁ (L.step G t₁) ha fun φ' t' junk' h' t₂ hb ha' G'=>k φ' t' junk' h' (t₁.trans0 t₂) hb ha' G'
theorem flight_W {Q:Unit→Shared→Prop} {j:Nat} {fr:Option Addr} (G:St prog w B φ (τ++.exc C (some j) :: junk) s) (htb:TbOk (τ++.exc C (some j) :: junk) (some j)) (ha:φ[τ.length]?=some ea)
  (k:∀ h',Step [] φ s.heap φ h'→St prog w B φ (τ++.exc C (some j) :: junk) { s with heap:=h' }→Q () { s with heap:=h' }) :
  wpAny (model prog w) A (setFlight (.ref ea) fr) Q E s:=by
 obtain ⟨o,vs,e1,hc,hd,T,ht,hT⟩:=G.exc_ ha
 obtain ⟨oT,ts,x,eT,hcT,hdT,h3⟩:=G.objs _ _ _ hT (htb j rfl)
 unfold setFlight
 refine wpAny_bind (wpAny_field e1 hd ht ?_)
 rw [if_pos (show (Value.ref T != Value.none)=true from by simp)]
 generalize (fr.elim Value.none fun f=>rawInt f)=u
 refine wpAny_setField eT hdT (Array.getElem?_eq_some_iff.mp h3).1 ?_
 have hd3:=Obj.data_mapFields hdT (·.setIfInBounds 3 u)
 have he3:=Heap.get?_update_self (Obj.mapFields (·.setIfInBounds 3 u)) eT (Obj.isFreed_of_fields hd3)
 have hsb:Heap.SameBut T s.heap (s.heap.update T (Obj.mapFields (·.setIfInBounds 3 u))):=Heap.SameBut.update ..
 have G₁:=G.update (s':={ s with heap:=s.heap.update T (Obj.mapFields (·.setIfInBounds 3 u)) }) (ob:=.tb) hT hsb ⟨_,_,u,he3,(Obj.cls_mapFields _ _).trans hcT,hd3,by simp [(Array.getElem?_eq_some_iff.mp h3).1]⟩
 have es:(τ++AObj.exc C (some j) :: junk).set j .tb=τ++AObj.exc C (some j) :: junk:=by
  have hj:=htb j rfl
  obtain ⟨hlt,he⟩:=List.getElem?_eq_some_iff.mp hj
  refine List.ext_getElem? fun i=>?_
  by_cases hi:i=j
  ·subst hi;rw [List.getElem?_set_self hlt,hj]
  ·rw [List.getElem?_set_ne (Ne.symm hi)]
 rw [es] at G₁
 exact k _ (Step.update hsb (List.mem_of_getElem? hT)) G₁
theorem leave_W {Q:Unit→Shared→Prop} (G:St prog w B φ (τ++.exc C t :: junk) s) (htb:TbOk (τ++.exc C t :: junk) t) (L:Loc A B env ρ φ s.heap) (ha:φ[τ.length]?=some ea)
  (k:∀ φ' t' junk' h',Step [] φ s.heap φ' h'→TbOk (τ++.exc C (some t') :: junk') (some t')→φ'[τ.length]?=some ea→St prog w B φ' (τ++.exc C (some t') :: junk') { s with heap:=h' }→Q () { s with heap:=h' }) :
  wpAny (model prog w) A (leaving env (.ref ea)) Q E s:=by
 unfold leaving
 exact wpAny_bind (note_W G htb L ha fun φ' t' junk' h' t₁ hb ha' G'=>flight_W G' hb ha' fun h'' t₂ G''=>k φ' t' junk' h'' (t₁.trans0 t₂) hb ha' G'')
theorem came_W {Q:Value→Shared→Prop} (G:St prog w B φ (τ++.exc C t :: junk) s) (htb:TbOk (τ++.exc C t :: junk) t) (L:Loc A B env ρ φ s.heap) (ha:φ[τ.length]?=some ea)
  (k:∀ φ' t' junk' h',Step [] φ s.heap φ' h'→TbOk (τ++.exc C (some t') :: junk') (some t')→φ'[τ.length]?=some ea→St prog w B φ' (τ++.exc C (some t') :: junk') { s with heap:=h' }→Q (.ref ea) { s with heap:=h' }) :
  notedBy (model prog w) A env (cameBackBy (model prog w) A env Q) (.ref ea) s:=by
 refine note_W G htb L ha fun φ' t' junk' h' t₁ hb ha' G'=>?_
 obtain ⟨o,vs,e1,hc,hd,T,ht,hT⟩:=G'.exc_ ha'
 refine wpAny_bind (wpAny_field e1 hd ht ?_)
 rw [if_neg (show ¬ ((Value.ref T == Value.none)=true) from by simp)]
 exact flight_W G' hb ha' fun h'' t₂ G''=>k φ' t' junk' h'' (t₁.trans0 t₂) hb ha' G''
end
end Mine
namespace Mine
open PySem PySem.Calls PyProof.Rows
inductive Fl where
 | next
 | brk
 | cont
 | ret (x:V)
noncomputable def FlR (φ:List Addr) (h:Heap):Fl→Flow→Prop
 | .next,f=>f=.next
 | .brk,f=>f=.brk
 | .cont,f=>f=.cont
 | .ret x,f=>∃ v,f=.ret v∧Val φ h x v
section
variable (prog:Program) (w:World) (B:Shared)
inductive fQ (A:Around) (env:Env) (Q:Fl→List (Str×V)→List AObj→Prop) (f:Flow) (φ':List Addr) (σ':List AObj) (s':Shared):Prop
 | mk:∀ fl ρ',FlR φ' s'.heap fl f→Loc A B env ρ' φ' s'.heap→Q fl ρ' σ'→fQ A env Q f φ' σ' s'
noncomputable def WX1 (A:Around) (env:Env) (st:Stmt) (ρ:List (Str×V)) (σ:List AObj) (Q:Fl→List (Str×V)→List AObj→Prop) (X:XT):Prop :=
 ∀ φ s,St prog w B φ σ s→Loc A B env ρ φ s.heap→wpAny (model prog w) A (exec st env) (Post prog w B (fr env) φ s (fQ B A env Q)) (Post prog w B (fr env) φ s X) s
noncomputable def WX (A:Around) (env:Env) (ss:List Stmt) (ρ:List (Str×V)) (σ:List AObj) (Q:Fl→List (Str×V)→List AObj→Prop) (X:XT):Prop :=
 ∀ φ s,St prog w B φ σ s→Loc A B env ρ φ s.heap→wpAny (model prog w) A (execs ss env) (Post prog w B (fr env) φ s (fQ B A env Q)) (Post prog w B (fr env) φ s X) s
end
section
variable {prog:Program} {w:World} {B:Shared} {φ φ₁ φ₂:List Addr} {σ:List AObj} {s s₁:Shared} {env:Env} {ρ ρ₁:List (Str×V)} {A:Around} {X:XT}
theorem Step.transF {h h₁ h₂:Heap} (t:Step (fr env) φ h φ₁ h₁) (u:Step (fr env) φ₁ h₁ φ₂ h₂) (L:Loc A B env ρ₁ φ₁ h₁):Step (fr env) φ h φ₂ h₂ :=
 t.trans u fun a ha=>.inl ⟨(L.own a ha).1,fun h=>by
  rcases u.fresh a h with h1 | h1
  ·exact (L.own a ha).1 h1
  ·obtain ⟨o,e,_⟩:=L.there ha;rw [e] at h1;cases h1⟩
theorem WE.then {e:Expr} {Q:V→List AObj→Prop} {R:Value→Shared→Prop} (h:WE prog w B A env e ρ σ Q X) (G:St prog w B φ σ s) (L:Loc A B env ρ φ s.heap)
  (k:∀ v s₁ φ₁ σ₁ x,Step [] φ s.heap φ₁ s₁.heap→St prog w B φ₁ σ₁ s₁→Loc A B env ρ φ₁ s₁.heap→Val φ₁ s₁.heap x v→Q x σ₁→R v s₁) :
  wpAny (model prog w) A (eval e env) R (Post prog w B (fr env) φ s X) s :=
 wpAny_mono (h φ s G L) (fun v s₁ ⟨φ₁,σ₁,t,G₁,x,hx,q⟩=>k v s₁ φ₁ σ₁ x t G₁ (L.step G t) hx q) fun e s' ⟨φ',σ',t,G',x⟩=>⟨φ',σ',t.nilD,G',x⟩
theorem WT.then {e:Expr} {Q:Bool→List AObj→Prop} {R:Bool→Shared→Prop} (h:WT prog w B A env e ρ σ Q X) (G:St prog w B φ σ s) (L:Loc A B env ρ φ s.heap)
  (k:∀ b s₁ φ₁ σ₁,Step [] φ s.heap φ₁ s₁.heap→St prog w B φ₁ σ₁ s₁→Loc A B env ρ φ₁ s₁.heap→Q b σ₁→R b s₁) :
  wpAny (model prog w) A (isTrue e env (eval e env)) R (Post prog w B (fr env) φ s X) s :=
 wpAny_mono (h φ s G L) (fun v s₁ ⟨φ₁,σ₁,t,G₁,q⟩=>k v s₁ φ₁ σ₁ t G₁ (L.step G t) q) fun e s' ⟨φ',σ',t,G',x⟩=>⟨φ',σ',t.nilD,G',x⟩
theorem Post.transF {α:Type} {Q:α→List Addr→List AObj→Shared→Prop} {a:α} {s':Shared} (t:Step (fr env) φ s.heap φ₁ s₁.heap) (L:Loc A B env ρ₁ φ₁ s₁.heap) (h:Post prog w B (fr env) φ₁ s₁ Q a s'):Post prog w B (fr env) φ s Q a s':=by
 obtain ⟨φ',σ',t',G',q⟩:=h
 exact ⟨φ',σ',t.transF t' L,G',q⟩
theorem WX.last {ss:List Stmt} {Q:Fl→List (Str×V)→List AObj→Prop} {σ₁:List AObj} (h:WX prog w B A env ss ρ₁ σ₁ Q X) (G₁:St prog w B φ₁ σ₁ s₁) (L₁:Loc A B env ρ₁ φ₁ s₁.heap) (t:Step (fr env) φ s.heap φ₁ s₁.heap) :
  wpAny (model prog w) A (execs ss env) (Post prog w B (fr env) φ s (fQ B A env Q)) (Post prog w B (fr env) φ s X) s₁ :=
 wpAny_mono (h φ₁ s₁ G₁ L₁) (fun _ _ p=>p.transF t L₁) fun _ _ p=>p.transF t L₁
theorem X_nil {Q:Fl→List (Str×V)→List AObj→Prop} (q:Q .next ρ σ):WX prog w B A env [] ρ σ Q X :=
 fun φ s G L=>wpAny_execs_nil ⟨φ,σ,.refl ..,G,.next,ρ,rfl,L,q⟩
noncomputable def seqQ (prog:Program) (w:World) (B:Shared) (A:Around) (env:Env) (rest:List Stmt) (Q:Fl→List (Str×V)→List AObj→Prop) (X:XT):Fl→List (Str×V)→List AObj→Prop
 | .next,ρ',σ'=>WX prog w B A env rest ρ' σ' Q X
 | f,ρ',σ'=>Q f ρ' σ'
theorem X_cons {st:Stmt} {rest:List Stmt} {Q:Fl→List (Str×V)→List AObj→Prop} (h:WX1 prog w B A env st ρ σ (seqQ prog w B A env rest Q X) X):WX prog w B A env (st :: rest) ρ σ Q X :=
 fun φ s G L=>wpAny_execs_cons (wpAny_mono (h φ s G L) (fun f s₁ ⟨φ₁,σ₁,t₁,G₁,fl,ρ₁,hf,L₁,q⟩=>by
  cases fl with
  | next=>obtain rfl:f=.next:=hf;exact WX.last q G₁ L₁ t₁
  | brk=>obtain rfl:f=.brk:=hf;exact ⟨φ₁,σ₁,t₁,G₁,.brk,ρ₁,rfl,L₁,q⟩
  | cont=>obtain rfl:f=.cont:=hf;exact ⟨φ₁,σ₁,t₁,G₁,.cont,ρ₁,rfl,L₁,q⟩
  | ret x=>obtain ⟨v,rfl,hv⟩:=hf;exact ⟨φ₁,σ₁,t₁,G₁,.ret x,ρ₁,⟨v,rfl,hv⟩,L₁,q⟩) fun _ _ x=>x)
theorem X_return {e:Expr} {pos:Pos} {Q:Fl→List (Str×V)→List AObj→Prop} (h:WE prog w B A env e ρ σ (fun x σ₁=>Q (.ret x) ρ σ₁) X):WX1 prog w B A env (.Return (some e) pos) ρ σ Q X :=
 fun φ s G L=>wpAny_Return_some (h.then G L fun v s₁ φ₁ σ₁ x t G₁ L₁ hx q=>⟨φ₁,σ₁,t.nilD,G₁,.ret x,ρ,⟨v,rfl,hx⟩,L₁,q⟩)
theorem X_expr {e:Expr} {pos:Pos} {Q:Fl→List (Str×V)→List AObj→Prop} (h:WE prog w B A env e ρ σ (fun _ σ₁=>Q .next ρ σ₁) X)
  (hi:interactive env=false:=by with_unfolding_all rfl) (hs:swapsWith e none pos.line env=pure false:=by with_unfolding_all rfl):WX1 prog w B A env (.Expr e pos) ρ σ Q X :=
 fun φ s G L=>wpAny_Expr_any (h.then G L fun v s₁ φ₁ σ₁ x t G₁ L₁ hx q=>⟨φ₁,σ₁,t.nilD,G₁,.next,ρ,rfl,L₁,q⟩) hi hs
theorem X_if {test:Expr} {body orelse:List Stmt} {pos:Pos} {Q:Fl→List (Str×V)→List AObj→Prop}
  (h:WT prog w B A env test ρ σ (fun b σ₁=>if b then WX prog w B A env body ρ σ₁ Q X else WX prog w B A env orelse ρ σ₁ Q X) X):WX1 prog w B A env (.If test body orelse pos) ρ σ Q X :=
 fun φ s G L=>wpAny_If (h.then G L fun b s₁ φ₁ σ₁ t G₁ L₁ q=>by
  cases b
  ·exact WX.last q G₁ L₁ t.nilD
  ·exact WX.last q G₁ L₁ t.nilD)
theorem Bnd.sameBut {h h':Heap} {c:Addr} {y:Str} {val:Value} (hb:Bnd env h y val) (hs:Heap.SameBut c h h') (hl:env.kindOf y=some .local→c≠env.locals) (hc:∀ d,(y,d)∈env.cells→d≠c):Bnd env h' y val:=by
 rcases hb with ⟨k,m,n,e⟩ | ⟨k,d,e,n⟩
 ·exact .inl ⟨k,m,n.sameBut hs (Ne.symm (hl k)),e⟩
 ·exact .inr ⟨k,d,e,n.sameBut hs (hc d (mem_of_lookup e))⟩
theorem locals_ne_cell {h:Heap} (L:Loc A B env ρ φ h) {x:Str} {c:Addr} (hm:(x,c)∈env.cells):c≠env.locals:=fun e=>by
 obtain ⟨m,o,es,ep,e1,hd,_⟩:=L.ns
 obtain ⟨v,o',e2,hd'⟩:=L.cells x c hm
 rw [e,e1] at e2;cases e2
 rw [hd] at hd';cases hd'
theorem lookup_cons_ne {ρ:List (Str×V)} {x y:Str} {v:V} (h:y≠x):((x,v) :: ρ).lookup y=ρ.lookup y:=by
 rw [List.lookup_cons]
 have:(y == x)=false:=by simpa using h
 rw [this]
theorem store_local {x:Str} {v:Value} {y:V} {Q:Unit→Shared→Prop} {E:Value→Shared→Prop} (G:St prog w B φ σ s) (L:Loc A B env ρ φ s.heap) (hv:Val φ s.heap y v)
  (hx:env.kindOf x=some .local)
  (k:∀ h' tk,Heap.SameBut env.locals s.heap h'→St prog w B φ σ { s with heap:=h',toks:=tk }→Loc A B env ((x,y) :: ρ) φ h'→Q () { s with heap:=h',toks:=tk }) :
  wpAny (model prog w) A (storeName env x v) Q E s:=by
 obtain ⟨m,hm⟩:=L.ns
 refine wpAny_storeName_local hx hm (fun h' hn hs=>?_) (by rw [L.kind];rfl)
 have hns:∀ o,s.heap.get? env.locals=some o→¬ Still o:=fr_notStill L _ (.head _)
 have hown:=L.own _ (List.mem_cons_self (l:=env.cells.map (·.2)) (a:=env.locals))
 refine k h' _ hs (G.sameBut (s':={ s with heap:=h',toks:=s.toks+1 }) hs hown.1 hown.2 hns) ⟨L.kind,L.glob,L.blt,⟨_,hn⟩,L.own,fun z c hz=>?_,L.apart,fun z u hz=>?_,L.frs.at hs.extBut (.inl (let ⟨o,es,n,e,hd,_⟩:=hn;⟨o,es,n,e,hd⟩)),L.top⟩
 ·obtain ⟨v',n'⟩:=L.cells z c hz
  exact ⟨v',n'.sameBut hs (locals_ne_cell L hz)⟩
 ·by_cases hzx:z=x
  ·subst hzx
   rw [List.lookup_cons_self] at hz;cases hz
   exact ⟨v,.inl ⟨hx,_,hn,by simp⟩,hv.sameBut hs hns⟩
  ·rw [lookup_cons_ne hzx] at hz
   obtain ⟨val,hb,hv'⟩:=L.val z u hz
   refine ⟨val,?_,hv'.sameBut hs hns⟩
   rcases hb with ⟨k',m',n',e'⟩ | ⟨k',d,e',n'⟩
   ·refine .inl ⟨k',_,hn,?_⟩
    obtain ⟨o1,es1,ep1,a1,a2,a3,a4⟩:=hm
    obtain ⟨o2,es2,ep2,b1,b2,b3,b4⟩:=n'
    rw [a1] at b1;cases b1;rw [a2] at b2;cases b2
    rw [if_neg hzx,← a4 z,b4 z];exact e'
   ·exact .inr ⟨k',d,e',n'.sameBut hs (locals_ne_cell L (mem_of_lookup e'))⟩
theorem store_name {x:Str} {v:Value} {y:V} {Q:Unit→Shared→Prop} {E:Value→Shared→Prop} (G:St prog w B φ σ s) (L:Loc A B env ρ φ s.heap) (hv:Val φ s.heap y v)
  (hx:env.kindOf x=some .local∨env.kindOf x=some .cell∧(env.cells.lookup x).isSome=true)
  (k:∀ h' tk,Step (fr env) φ s.heap φ h'→St prog w B φ σ { s with heap:=h',toks:=tk }→Loc A B env ((x,y) :: ρ) φ h'→Q () { s with heap:=h',toks:=tk }) :
  wpAny (model prog w) A (storeName env x v) Q E s:=by
 rcases hx with hx | ⟨hx,hc⟩
 ·exact store_local G L hv hx fun h' tk hs G' L'=>k h' tk ⟨List.prefix_refl _,fun _ h=>.inl h,fun b o e h1 h2=>⟨o,hs.extBut b o (fun h=>h2 (h ▸ .head _)) e,.refl o⟩⟩ G' L'
 ·obtain ⟨c,hc⟩:=Option.isSome_iff_exists.mp hc
  have hcm:=mem_of_lookup hc
  obtain ⟨v₀,hc0⟩:=L.cells x c hcm
  refine wpAny_storeName_cell L.kind hx hc hc0 fun h' hn hs=>?_
  have hns:∀ o,s.heap.get? c=some o→¬ Still o:=fr_notStill L _ (mem_fr_cell hcm)
  have hown:=L.own _ (mem_fr_cell hcm)
  refine k h' s.toks ⟨List.prefix_refl _,fun _ h=>.inl h,fun b o e h1 h2=>⟨o,hs.extBut b o (fun h=>h2 (h ▸ mem_fr_cell hcm)) e,.refl o⟩⟩ (G.sameBut (s':={ s with heap:=h' }) hs hown.1 hown.2 hns) ⟨L.kind,L.glob,L.blt,?_,L.own,fun z d hz=>?_,L.apart,fun z u hz=>?_,L.frs.at hs.extBut (.inr fun o e es n hd=>by obtain ⟨o',e',hd'⟩:=hc0;rw [e'] at e;cases e;rw [hd'] at hd;cases hd),L.top⟩
  ·obtain ⟨m,hm⟩:=L.ns;exact ⟨m,hm.sameBut hs (Ne.symm (locals_ne_cell L hcm))⟩
  ·by_cases hdc:d=c
   ·subst hdc;exact ⟨_,hn⟩
   ·obtain ⟨v',n'⟩:=L.cells z d hz;exact ⟨v',n'.sameBut hs hdc⟩
  ·by_cases hzx:z=x
   ·subst hzx
    rw [List.lookup_cons_self] at hz;cases hz
    exact ⟨v,.inr ⟨.inl hx,c,hc,hn⟩,hv.sameBut hs hns⟩
   ·rw [lookup_cons_ne hzx] at hz
    obtain ⟨val,hb,hv'⟩:=L.val z u hz
    refine ⟨val,hb.sameBut hs (fun _=>locals_ne_cell L hcm) fun d hd e=>hzx ?_,hv'.sameBut hs hns⟩
    exact name_of_addr L.apart hd (e ▸ hcm)
theorem X_assign {x:Str} {e:Expr} {px pos:Pos} {Q:Fl→List (Str×V)→List AObj→Prop} (h:WE prog w B A env e ρ σ (fun y σ₁=>Q .next ((x,y) :: ρ) σ₁) X)
  (hx:env.kindOf x=some .local∨env.kindOf x=some .cell∧(env.cells.lookup x).isSome=true)
  (hs:swapsWith e (some (.Name x px)) pos.line env=pure false:=by with_unfolding_all rfl):WX1 prog w B A env (.Assign [.Name x px] e pos) ρ σ Q X :=
 fun φ s G L=>wpAny_Assign_Name (h.then G L fun v s₁ φ₁ σ₁ y t G₁ L₁ hy q=>store_name G₁ L₁ hy hx fun h' tk t' G' L'=>⟨φ₁,σ₁,Step.transF t.nilD t' L₁,G',.next,_,rfl,L',q⟩) hs
end
end Mine
namespace Mine
open PySem PySem.Calls PyProof.Rows
mutual
noncomputable def V.lt (n:Nat):V→Prop
 | .ref k=>k < n
 | .tup xs=>Vs.lt n xs
 | _=>True
noncomputable def Vs.lt (n:Nat):List V→Prop
 | []=>True
 | x :: xs=>V.lt n x∧Vs.lt n xs
end
mutual
theorem Val.isLt {φ:List Addr} {h:Heap}:∀ (x:V) {v:Value},Val φ h x v→x.lt φ.length
 | .none,_,_ | .bool _,_,_ | .int _,_,_ | .str _,_,_ | .raw _,_,_ | .rng ..,_,_=>by simp [V.lt]
 | .ref k,_,e=>by rw [Val] at e;obtain ⟨a,_,ha⟩:=e;rw [V.lt];exact (List.getElem?_eq_some_iff.mp ha).1
 | .tup xs,_,e=>by rw [Val] at e;obtain ⟨a,vs,_,_,hv⟩:=e;rw [V.lt];exact Vals.isLt xs hv
theorem Vals.isLt {φ:List Addr} {h:Heap}:∀ (xs:List V) {vs:List Value},Vals φ h xs vs→Vs.lt φ.length xs
 | [],_,_=>by simp [Vs.lt]
 | x :: xs,_,e=>by rw [Vals] at e;obtain ⟨v,r,_,h1,h2⟩:=e;rw [Vs.lt];exact ⟨Val.isLt x h1,Vals.isLt xs h2⟩
end
mutual
theorem Val.cut {φ φ':List Addr} {h:Heap} (hp:φ <+: φ'):∀ (x:V) {v:Value},x.lt φ.length→Val φ' h x v→Val φ h x v
 | .none,_,_,e | .bool _,_,_,e | .int _,_,_,e | .str _,_,_,e | .raw _,_,_,e | .rng ..,_,_,e=>by simpa [Val] using e
 | .ref k,_,hl,e=>by
  rw [Val] at e ⊢
  rw [V.lt] at hl
  obtain ⟨a,rfl,ha⟩:=e
  obtain ⟨r,rfl⟩:=hp
  rw [List.getElem?_append_left hl] at ha
  exact ⟨a,rfl,ha⟩
 | .tup xs,_,hl,e=>by
  rw [Val] at e ⊢
  rw [V.lt] at hl
  obtain ⟨a,vs,h1,h2,hv⟩:=e
  exact ⟨a,vs,h1,h2,Vals.cut hp xs hl hv⟩
theorem Vals.cut {φ φ':List Addr} {h:Heap} (hp:φ <+: φ'):∀ (xs:List V) {vs:List Value},Vs.lt φ.length xs→Vals φ' h xs vs→Vals φ h xs vs
 | [],_,_,e=>by simpa [Vals] using e
 | x :: xs,_,hl,e=>by
  rw [Vals] at e ⊢
  rw [Vs.lt] at hl
  obtain ⟨v,r,h0,h1,h2⟩:=e
  exact ⟨v,r,h0,Val.cut hp x hl.1 h1,Vals.cut hp xs hl.2 h2⟩
end
noncomputable def AObj.lt (n:Nat):AObj→Prop
 | .list xs=>Vs.lt n xs
 | .dict es _=>∀ e∈es,e.2.lt n
 | .inst _ k=>k < n
 | .ns as=>∀ x v,as.lookup x=some v→v.lt n
 | .set _=>True
 | .exc _ t=>∀ k,t=some k→k < n
 | .tb=>True
theorem Ents.isLt {φ:List Addr} {h:Heap} {es:List (Key×V)} {kvs:List (Key×Value)} (e:Ents φ h es kvs):∀ p∈es,p.2.lt φ.length:=by
 induction e with
 | nil=>intro p hp;cases hp
 | cons h1 _ ih=>intro p hp;rcases List.mem_cons.mp hp with rfl | hp;exact Val.isLt _ h1;exact ih p hp
theorem Ents.cut {φ φ':List Addr} {h:Heap} (hp:φ <+: φ') {es:List (Key×V)} {kvs:List (Key×Value)} (e:Ents φ' h es kvs) (hl:∀ p∈es,p.2.lt φ.length):Ents φ h es kvs:=by
 induction e with
 | nil=>exact .nil
 | cons h1 _ ih=>exact .cons (Val.cut hp _ (hl _ (.head _)) h1) (ih fun p hp=>hl p (.tail _ hp))
section
variable {prog:Program} {w:World} {B:Shared} {φ φ' φ₁:List Addr} {σ σ':List AObj} {s s' s₁:Shared} {env:Env} {ρ:List (Str×V)} {A:Around} {X:XT}
theorem ObjR.isLt {h:Heap} {a:Addr} {ob:AObj} (r:ObjR prog w φ h a ob):ob.lt φ.length:=by
 cases ob with
 | list xs=>obtain ⟨vs,n,_,hv⟩:=r;exact Vals.isLt _ hv
 | dict es e=>obtain ⟨kvs,ep,_,hv,_⟩:=r;exact hv.isLt
 | inst C k=>obtain ⟨d,_,hd⟩:=r;exact (List.getElem?_eq_some_iff.mp hd).1
 | set ss=>trivial
 | exc C t =>
  obtain ⟨o,vs,_,_,_,h⟩:=r
  intro k hk
  subst hk
  obtain ⟨T,_,hT⟩:=h
  exact (List.getElem?_eq_some_iff.mp hT).1
 | tb=>trivial
 | ns as =>
  obtain ⟨es,n,_,_,_,h3⟩:=r
  intro x v hx
  have:=h3 x
  rw [hx] at this
  obtain ⟨val,_,hv⟩:=this
  exact Val.isLt _ hv
theorem ObjR.cut {h:Heap} {a:Addr} {ob:AObj} (hp:φ <+: φ') (r:ObjR prog w φ' h a ob) (hl:ob.lt φ.length):ObjR prog w φ h a ob:=by
 cases ob with
 | list xs=>obtain ⟨vs,n,e,hv⟩:=r;exact ⟨vs,n,e,Vals.cut hp _ hl hv⟩
 | dict es e=>obtain ⟨kvs,ep,h1,hv,h2⟩:=r;exact ⟨kvs,ep,h1,hv.cut hp hl,h2⟩
 | set ss=>exact r
 | tb=>exact r
 | exc C t =>
  obtain ⟨o,vs,h1,h2,h3,h⟩:=r
  refine ⟨o,vs,h1,h2,h3,?_⟩
  cases t with
  | none=>exact h
  | some k =>
   obtain ⟨T,e,hT⟩:=h
   obtain ⟨r,rfl⟩:=hp
   rw [List.getElem?_append_left (hl k rfl)] at hT
   exact ⟨T,e,hT⟩
 | inst C k =>
  obtain ⟨d,e,hd⟩:=r
  obtain ⟨r,rfl⟩:=hp
  rw [List.getElem?_append_left hl] at hd
  exact ⟨d,e,hd⟩
 | ns as =>
  obtain ⟨es,n,e,h1,h2,h3⟩:=r
  refine ⟨es,n,e,h1,h2,fun x=>?_⟩
  have:=h3 x
  cases hx:as.lookup x with
  | none=>rw [hx] at this;exact this
  | some v=>rw [hx] at this;obtain ⟨val,e1,e2⟩:=this;exact ⟨val,e1,Val.cut hp v (hl x v hx) e2⟩
theorem St.closed (G:St prog w B φ σ s):∀ ob∈σ,ob.lt σ.length:=fun ob ho=>by
 obtain ⟨k,hk,rfl⟩:=List.mem_iff_getElem.mp ho
 rw [← G.len]
 exact (G.objs k _ σ[k] (List.getElem?_eq_getElem (G.len ▸ hk)) (List.getElem?_eq_getElem hk)).isLt
theorem St.trunc {σ₁ junk:List AObj} (G:St prog w B φ' (σ₁++junk) s) (hp:φ <+: φ') (hn:φ.length=σ₁.length) (hc:∀ ob∈σ₁,ob.lt σ₁.length):St prog w B φ σ₁ s:=by
 refine ⟨G.base,fun a ha=>G.new a (hp.subset ha),G.nodup.sublist hp.sublist,hn,fun k a ob h1 h2=>?_,G.gens,G.os,G.sys.1,fun h=>G.sys.2 (hp.subset h)⟩
 have hk:=(List.getElem?_eq_some_iff.mp h1).1
 obtain ⟨r,rfl⟩:=hp
 refine (G.objs k a ob (by rw [List.getElem?_append_left hk];exact h1) (by rw [List.getElem?_append_left (hn ▸ hk)];exact h2)).cut (List.prefix_append _ _) (hn ▸ hc ob (List.mem_of_getElem? h2))
theorem St.pick {j1 j2:List AObj} {ob:AObj} (G:St prog w B φ' (σ++j1++ob :: j2) s') (hp:φ <+: φ') (hn:φ.length=σ.length) (hc:∀ ob∈σ,ob.lt σ.length) (ho:ob.lt σ.length) :
  ∃ c,φ'[σ.length+j1.length]?=some c∧c∉φ∧St prog w B (φ++[c]) (σ++[ob]) s':=by
 have hl:σ.length+j1.length < φ'.length:=by rw [G.len];simp
 have hidx:=List.getElem?_eq_getElem hl
 refine ⟨φ'[σ.length+j1.length],hidx,fun hm=>?_,?_⟩
 ·obtain ⟨i,hi,e⟩:=List.mem_iff_getElem.mp hm
  have h1:φ'[i]'(Nat.lt_of_lt_of_le hi hp.length_le)=φ'[σ.length+j1.length]:=by
   rw [← e]
   exact (hp.getElem hi).symm
  have:=(List.getElem_inj G.nodup).mp h1
  (exact qAz hn hi this)
 ·have hc':φ'[σ.length+j1.length]∉φ:=fun hm=>by
   obtain ⟨i,hi,e⟩:=List.mem_iff_getElem.mp hm
   have h1:φ'[i]'(Nat.lt_of_lt_of_le hi hp.length_le)=φ'[σ.length+j1.length]:=by
    rw [← e]
    exact (hp.getElem hi).symm
   have:=(List.getElem_inj G.nodup).mp h1
   (exact qAz hn hi this)
  have r:=G.objs _ _ ob hidx (by rw [List.append_assoc,List.getElem?_append_right (by exact qAE),List.getElem?_append_right (by exact qGa)];simp)
  have r':=r.cut hp (hn ▸ ho)
  refine ⟨G.base,fun a ha=>?_,?_,by simp [hn],fun k a ob' h1 h2=>?_,G.gens,G.os,G.sys.1,fun h=>(List.mem_append.mp h).elim (fun h=>G.sys.2 (hp.subset h)) fun h=>G.sys.2 ((List.mem_singleton.mp h) ▸ List.getElem_mem _)⟩
  ·rcases List.mem_append.mp ha with h | h
   ·exact G.new a (hp.subset h)
   ·obtain rfl:=List.mem_singleton.mp h;exact G.new _ (List.getElem_mem _)
  ·exact List.nodup_append.mpr ⟨G.nodup.sublist hp.sublist,by simp,fun a ha b hb e=>hc' (by obtain rfl:=List.mem_singleton.mp hb;exact e ▸ ha)⟩
  ·by_cases hk:k < φ.length
   ·rw [List.getElem?_append_left hk] at h1
    rw [List.getElem?_append_left (hn ▸ hk)] at h2
    have h3:φ'[k]?=some a:=by obtain ⟨r,rfl⟩:=hp;rw [List.getElem?_append_left hk];exact h1
    refine ((G.objs k a ob' h3 (by rw [List.append_assoc,List.getElem?_append_left (hn ▸ hk)];exact h2)).cut hp (hn ▸ hc ob' (List.mem_of_getElem? h2))).mono (List.prefix_append _ _) (fun _ _ e _=>e) fun _ e=>e
   ·have hk':k=φ.length:=by
     have:=(List.getElem?_eq_some_iff.mp h1).1
     simp at this;(exact qBp hk this)
    subst hk'
    rw [List.getElem?_append_right (Nat.le_refl _)] at h1
    rw [hn,List.getElem?_append_right (Nat.le_refl _)] at h2
    simp at h1 h2
    subst h1 h2
    exact r'.mono (List.prefix_append _ _) (fun _ _ e _=>e) fun _ e=>e
inductive Clean (σ:List AObj) (Q:V→List AObj→Prop):V→List AObj→Prop
 | all {x:V} {σ':List AObj}:Q x σ'→Clean σ Q x σ'
 | none {x:V} {junk:List AObj}:x.lt σ.length→Q x σ→Clean σ Q x (σ++junk)
 | one {j1 j2:List AObj} {ob:AObj} {k:Nat}:k=σ.length+j1.length→ob.lt σ.length→Q (.ref σ.length) (σ++[ob])→Clean σ Q (.ref k) (σ++j1++ob :: j2)
theorem WC.clean {f:Value} {xs:List V} {Q:V→List AObj→Prop} (h:WC prog w B A f xs σ (Clean σ Q) X):WC prog w B A f xs σ Q X:=fun φ s vs G FR hv =>
 wpAny_mono (h φ s vs G FR hv) (fun v s' ⟨φ',σ',t,G',x,hx,c⟩=>by
  cases c with
  | all q=>exact ⟨φ',σ',t,G',x,hx,q⟩
  | none hl q =>
   refine ⟨φ,σ,⟨List.prefix_refl _,fun _ h=>.inl h,t.keep⟩,G'.trunc t.pre G.len G.closed,x,Val.cut t.pre x (G.len ▸ hl) hx,q⟩
  | @one j1 j2 ob k hk hl q =>
   obtain ⟨c,hc,hcφ,G''⟩:=G'.pick t.pre G.len G.closed hl
   have hcm:c∈φ':=List.mem_of_getElem? hc
   refine ⟨φ++[c],σ++[ob],⟨List.prefix_append _ _,fun a ha=>(List.mem_append.mp ha).imp id fun h=>?_,t.keep⟩,G'',.ref σ.length,?_,q⟩
   ·obtain rfl:=List.mem_singleton.mp h
    exact (t.fresh a hcm).resolve_left hcφ
   ·rw [Val] at hx ⊢
    obtain ⟨a,rfl,ha⟩:=hx
    rw [hk,hc] at ha;cases ha
    exact ⟨c,rfl,by rw [← G.len];simp⟩) fun _ _ x=>x
theorem St.there (G:St prog w B φ σ s) {a:Addr} (ha:a∈φ):∃ o,s.heap.get? a=some o:=by
 obtain ⟨k,hk,rfl⟩:=List.mem_iff_getElem.mp ha
 have hk':k < σ.length:=G.len ▸ hk
 have r:=G.objs k _ σ[k] (List.getElem?_eq_getElem hk) (List.getElem?_eq_getElem hk')
 cases hob:σ[k] with
 | list xs=>rw [hob] at r;obtain ⟨vs,n,e,_⟩:=r;exact ⟨_,e⟩
 | dict es e=>rw [hob] at r;obtain ⟨kvs,ep,⟨o,es',e,_⟩,_⟩:=r;exact ⟨_,e⟩
 | inst C k=>rw [hob] at r;obtain ⟨d,e,_⟩:=r;exact ⟨_,e⟩
 | ns as=>rw [hob] at r;obtain ⟨es,n,e,_⟩:=r;exact ⟨_,e⟩
 | set ss=>rw [hob] at r;obtain ⟨o',es,ep,t,e,_⟩:=r;exact ⟨_,e⟩
 | exc C t=>rw [hob] at r;obtain ⟨o',vs,e,_⟩:=r;exact ⟨_,e⟩
 | tb=>rw [hob] at r;obtain ⟨o',ts,x,e,_⟩:=r;exact ⟨_,e⟩
theorem cellsFrom_has:∀ (names:List (Str×NameKind)) (n:Nat) (acc:List (Str×Addr)) (x:Str),((acc.lookup x).isSome=true∨names.lookup x=some .cell)→((cellsFrom n names acc).lookup x).isSome=true
 | [],n,acc,x,h=>by
  rcases h with h | h
  ·exact h
  ·cases h
 | (y,k) :: r,n,acc,x,h=>by
  unfold cellsFrom
  by_cases hk:(k == NameKind.cell)=true
  ·rw [if_pos hk]
   refine cellsFrom_has r (n+1) _ x ?_
   by_cases hx:x=y
   ·subst hx;left;simp
   ·rcases h with h | h
    ·left;rw [List.lookup_cons];rw [show (x == y)=false from by simpa using hx];exact h
    ·right;rw [List.lookup_cons,show (x == y)=false from by simpa using hx] at h;exact h
  ·rw [if_neg hk]
   refine cellsFrom_has r n _ x ?_
   rcases h with h | h
   ·exact .inl h
   ·by_cases hx:x=y
    ·subst hx;rw [List.lookup_cons_self] at h;cases h;exact absurd rfl hk
    ·rw [List.lookup_cons,show (x == y)=false from by simpa using hx] at h;exact .inr h
theorem cellsFrom_keys:∀ (names:List (Str×NameKind)) (n:Nat) (acc:List (Str×Addr)),((names.map (·.1))++acc.map (·.1)).Nodup→((cellsFrom n names acc).map (·.1)).Nodup
 | [],n,acc,h=>by unfold cellsFrom;simpa using h
 | (y,k) :: r,n,acc,h=>by
  unfold cellsFrom
  split
  ·refine cellsFrom_keys r (n+1) _ ?_
   simp only [List.map_cons]
   exact (List.perm_middle.nodup_iff).mpr (by simpa using h)
  ·refine cellsFrom_keys r n _ ?_
   simp only [List.map_cons,List.cons_append,List.nodup_cons] at h
   exact h.2
theorem lookup_of_mem {α:Type}:∀ {l:List (Str×α)} {x:Str} {c:α},(l.map (·.1)).Nodup→(x,c)∈l→l.lookup x=some c
 | (y,d) :: r,x,c,hn,hm=>by
  rcases List.mem_cons.mp hm with e | hm
  ·cases e;simp
  ·simp only [List.map_cons,List.nodup_cons] at hn
   have hxy:x≠y:=fun e=>hn.1 (e ▸ List.mem_map.mpr ⟨(x,c),hm,rfl⟩)
   rw [List.lookup_cons,show (x == y)=false from by simpa using hxy]
   exact lookup_of_mem hn.2 hm
structure Fn (B:Shared) (a:Addr) (names:List Str) (fd:FuncData) (body:List Stmt):Prop where
 at_:∃ o,B.heap.get? a=some o∧o.data=.func fd
 lim:B.heap.NoLimit
 code:B.heap.CodeRec fd.code fd.qualname
 body:fd.body=.stmts body
 clo:fd.closure=[]
 glob:fd.globals=mainGlobals
 blt:fd.builtins=builtinsNs
 bind:∀ vals:List Value,vals.length=names.length→bindArgs fd ⟨vals,[]⟩=pure (names.zip vals)
 kinds:∀ n∈names,fd.scope.names.lookup n=some .local∨fd.scope.names.lookup n=some .cell
 nodup:names.Nodup
 cnodup:(fd.scope.names.map (·.1)).Nodup
 co:fd.scope.isCoroutine=false
 gen:fd.scope.isGenerator=false
 kind:fd.scope.kind=.function
noncomputable def retV:Fl→V
 | .ret x=>x
 | _=>.none
theorem bindL_at (kindOf:Str→Option NameKind):∀ (binds:List (Str×Value)) (m:Str→Option Value) (x:Str),kindOf x=some .local→
  bindL kindOf binds m x=(binds.reverse.lookup x).or (m x)
 | [],m,x,_=>by simp [bindL]
 | (n,v) :: r,m,x,hx=>by
  rw [bindL,bindL_at kindOf r _ x hx,List.reverse_cons,List.lookup_append]
  by_cases hn:kindOf n=some .local
  ·rw [if_pos hn]
   by_cases hxn:x=n
   ·subst hxn;simp
   ·simp [hxn,List.lookup_cons,show (x == n)=false from by simpa using hxn]
  ·rw [if_neg hn]
   have hxn:x≠n:=fun e=>hn (e ▸ hx)
   simp [List.lookup_cons,show (x == n)=false from by simpa using hxn]
theorem bindC_at (kindOf:Str→Option NameKind):∀ (binds:List (Str×Value)) (m:Str→Option Value) (x:Str),kindOf x=some .cell→
  bindC kindOf binds m x=(binds.reverse.lookup x).or (m x)
 | [],m,x,_=>by simp [bindC]
 | (n,v) :: r,m,x,hx=>by
  rw [bindC,bindC_at kindOf r _ x hx,List.reverse_cons,List.lookup_append]
  by_cases hn:kindOf n=some .local
  ·rw [if_pos hn]
   have hxn:x≠n:=fun e=>by rw [e] at hx;rw [hx] at hn;cases hn
   simp [List.lookup_cons,show (x == n)=false from by simpa using hxn]
  ·rw [if_neg hn]
   by_cases hxn:x=n
   ·subst hxn;simp
   ·simp [hxn,List.lookup_cons,show (x == n)=false from by simpa using hxn]
theorem lookup_reverse_of_nodup {α:Type} {l:List (Str×α)} (h:(l.map (·.1)).Nodup) (x:Str):l.reverse.lookup x=l.lookup x:=by
 cases e:l.lookup x with
 | some v =>
  exact lookup_of_mem (by rw [List.map_reverse];exact (List.reverse_perm _).nodup_iff.mpr h) (List.mem_reverse.mpr (mem_of_lookup e))
 | none =>
  cases e':l.reverse.lookup x with
  | none=>rfl
  | some v=>rw [lookup_of_mem h (List.mem_reverse.mp (mem_of_lookup e'))] at e;cases e
theorem zip_lookup_vals {h:Heap}:∀ {names:List Str} {xs:List V} {vs:List Value},Vals φ h xs vs→∀ {x:Str} {v:V},(names.zip xs).lookup x=some v→∃ val,(names.zip vs).lookup x=some val∧Val φ h v val
 | [],_,_,_,x,v,hx=>by simp at hx
 | n :: ns,[],_,_,x,v,hx=>by simp at hx
 | n :: ns,y :: ys,_,e,x,v,hx=>by
  rw [Vals] at e
  obtain ⟨u,r,rfl,h1,h2⟩:=e
  rw [List.zip_cons_cons,List.lookup_cons] at hx ⊢
  cases hb:x == n with
  | true=>rw [hb] at hx;cases hx;exact ⟨u,rfl,h1⟩
  | false=>rw [hb] at hx;exact zip_lookup_vals h2 hx
theorem zip_keys_mem {α:Type}:∀ {names:List Str} {xs:List α} {x:Str} {v:α},(names.zip xs).lookup x=some v→x∈names:=fun {names xs x v} h=>(List.of_mem_zip (mem_of_lookup h)).1
inductive XOk (A:Around) (B:Shared) (env:Env):XT→XT→Prop
 | no {X:XT}:XOk A B env (fun _ _ _ _=>False) X
 | exc {R:Addr→List AObj→Prop}:XOk A B env (xL A B env [] (xQ R)) (xQ R)
theorem C_fn_codex {a:Addr} {names:List Str} {fd:FuncData} {body:List Stmt} {xs:List V} {Q:V→List AObj→Prop} (F:Fn B a names fd body) (hlen:xs.length=names.length) (hroom:A.depth < recursionLimit)
  (h:∀ L,∃ X',XOk (A.deeper (callEnvC fd L a)) B (callEnvC fd L a) X' X∧WX prog w B (A.deeper (callEnvC fd L a)) (callEnvC fd L a) body (names.zip xs) σ (fun fl _ σ'=>Q (retV fl) σ') X') :
  ∀ φ s vs,St prog w B φ σ s→Frs A B φ s.heap→Vals φ s.heap xs vs→codeAny (model prog w) A (.call (.ref a) ⟨vs,[]⟩) (fun r s'=>match r with | .ok (.ret v)=>Post prog w B [] φ s (vQ Q) v s' | .ok _=>False | .error e=>Post prog w B [] φ s X e s') s:=fun φ s vs G FR hv=>by
 obtain ⟨o,ho,hd⟩:=F.at_
 have hvl:vs.length=names.length:=hv.length.trans hlen
 refine codeAny_call_cells hroom (G.base _ _ ho) hd (F.lim.keeps G.base) (F.code.keeps G.base) F.body (F.bind vs hvl) F.clo (fun p hp=>?_) (fun s₁ ic=>?_) F.co F.gen F.kind
 ·have hn:p.1∈names:=(List.of_mem_zip hp).1
  rcases F.kinds _ hn with h1 | h1
  ·exact .inl h1
  ·exact .inr ⟨h1,cellsFrom_has _ _ _ _ (.inr h1)⟩
 ·have hk:=ic.toInCall.keep
  obtain ⟨h₁,tk,rfl⟩:=ic.toInCall.same
  have G₁:St prog w B φ σ { s with heap:=h₁,toks:=tk }:=G.keeps hk
  have hL:s.heap.get? s.heap.objs.size=none:=get?_size _
  have hcl:((callEnvC fd s.heap.objs.size a).cells.map (·.1)).Nodup:=cellsFrom_keys _ _ _ (by simpa using F.cnodup)
  have hnew:∀ c∈fr (callEnvC fd s.heap.objs.size a),s.heap.get? c=none:=fun c hc=>by
   rcases List.mem_cons.mp hc with rfl | hc
   ·exact hL
   ·obtain ⟨⟨x,d⟩,hm,rfl⟩:=List.mem_map.mp hc
    exact get?_of_ge (Nat.le_of_lt (ic.above x d hm))
  have tt:Step [] φ s.heap φ h₁:=.of_keeps hk
  have L₁:Loc (A.deeper (callEnvC fd s.heap.objs.size a)) B (callEnvC fd s.heap.objs.size a) (names.zip xs) φ h₁:=by
   refine ⟨F.kind,F.glob,F.blt,⟨_,ic.toInCall.ns⟩,fun c hc=>⟨fun hm=>?_,G.baseSize (hnew c hc)⟩,fun x c hm=>⟨_,ic.cell x c (lookup_of_mem hcl hm)⟩,ic.apart,fun x v hx=>?_,?_,?_⟩
   ·obtain ⟨o',e'⟩:=G.there hm
    rw [hnew c hc] at e';cases e'
   ·have hn:=zip_keys_mem hx
    obtain ⟨val,hval,hvv⟩:=zip_lookup_vals (hv.step G (.of_keeps hk)) hx
    have hbl:(names.zip vs).reverse.lookup x=some val:=by
     rw [lookup_reverse_of_nodup];exact hval
     rw [List.map_fst_zip (by exact qER hvl)];exact F.nodup
    refine ⟨val,?_,hvv⟩
    rcases F.kinds x hn with h1 | h1
    ·exact .inl ⟨h1,_,ic.toInCall.ns,by rw [bindL_at _ _ _ _ h1,hbl];rfl⟩
    ·obtain ⟨c,hc⟩:=Option.isSome_iff_exists.mp (cellsFrom_has fd.scope.names (s.heap.objs.size+1) [] x (.inr h1))
     refine .inr ⟨.inl h1,c,hc,?_⟩
     have:=ic.cell x c hc
     rw [bindC_at _ _ _ _ h1,hbl] at this
     exact this
   ·obtain ⟨l,hl,hf⟩:=FR.step tt
    refine ⟨_ :: l,Around.frames_deeper hl,fun e he=>?_⟩
    rcases List.mem_cons.mp he with rfl | he
    ·obtain ⟨o,es,n,e1,hd,_⟩:=ic.toInCall.ns
     exact ⟨by rw [show (callEnvC fd s.heap.objs.size a).scope.kind=_ from F.kind];simp,_,o,es,n,rfl,G.fresh,G.baseSize hL,e1,hd⟩
    ·exact hf e he
   ·obtain ⟨l,hl,_⟩:=FR
    exact ⟨_,l,Around.frames_deeper hl,rfl⟩
  have out:∀ φ' (s':Shared),Step (fr (callEnvC fd s.heap.objs.size a)) φ h₁ φ' s'.heap→Step [] φ s.heap φ' s'.heap:=fun φ' s' t=>by
   refine ⟨t.pre,fun b hb=>?_,fun b o e h1 _=>t.keep b o (hk b o e) h1 fun hb=>?_⟩
   ·rcases t.fresh b hb with h1 | h1
    ·exact .inl h1
    ·right
     cases e:s.heap.get? b with
     | none=>rfl
     | some o=>rw [hk b o e] at h1;cases h1
   ·rw [hnew b hb] at e;cases e
  obtain ⟨X',hX,hb⟩:=h s.heap.objs.size
  refine wpAny_mono (hb φ _ G₁ L₁) (fun f s' hx=>?_) (fun e s' hx=>?_)
  rotate_left
  ·obtain ⟨φ',σ',t,G',x⟩:=hx
   cases hX with
   | no=>exact x.elim
   | exc =>
    obtain ⟨⟨C,tt,τ,junk,ea,rfl,htb,rfl,ha,hR⟩,L'⟩:=x
    exact leave_W G' htb L' ha fun φ₂ t₂ junk₂ h₂ st htb₂ ha₂ G₂=>⟨φ₂,_,(out _ _ t).trans0 st,G₂,C,some t₂,τ,junk₂,ea,rfl,htb₂,rfl,ha₂,hR⟩
  obtain ⟨φ',σ',t,G',fl,ρ',hf,L',q⟩:=hx
  have t':=out _ _ t
  refine ⟨φ',σ',t',G',retV fl,?_,q⟩
  cases fl with
  | next=>obtain rfl:f=.next:=hf;simp [retV,Val]
  | brk=>obtain rfl:f=.brk:=hf;simp [retV,Val]
  | cont=>obtain rfl:f=.cont:=hf;simp [retV,Val]
  | ret x=>obtain ⟨v,rfl,hv⟩:=hf;exact hv
theorem C_fn_code {a:Addr} {names:List Str} {fd:FuncData} {body:List Stmt} {xs:List V} {Q:V→List AObj→Prop} (F:Fn B a names fd body) (hlen:xs.length=names.length) (hroom:A.depth < recursionLimit)
  (h:∀ L,WX prog w B (A.deeper (callEnvC fd L a)) (callEnvC fd L a) body (names.zip xs) σ (fun fl _ σ'=>Q (retV fl) σ') (fun _ _ _ _=>False)) :
  ∀ φ s vs,St prog w B φ σ s→Frs A B φ s.heap→Vals φ s.heap xs vs→codeAny (model prog w) A (.call (.ref a) ⟨vs,[]⟩) (fun r s'=>match r with | .ok (.ret v)=>Post prog w B [] φ s (vQ Q) v s' | .ok _=>False | .error e=>Post prog w B [] φ s X e s') s :=
 C_fn_codex F hlen hroom fun L=>⟨_,.no,h L⟩
theorem C_fn {a:Addr} {names:List Str} {fd:FuncData} {body:List Stmt} {xs:List V} {Q:V→List AObj→Prop} (F:Fn B a names fd body) (hlen:xs.length=names.length) (hroom:A.depth < recursionLimit)
  (h:∀ L,WX prog w B (A.deeper (callEnvC fd L a)) (callEnvC fd L a) body (names.zip xs) σ (fun fl _ σ'=>Q (retV fl) σ') (fun _ _ _ _=>False)) :
  WC prog w B A (.ref a) xs σ Q X:=fun φ s vs G FR hv=>wpAny_call (C_fn_code F hlen hroom h φ s vs G FR hv)
end
end Mine
namespace Mine
open PySem PySem.Calls PyProof.Rows
section
variable {prog:Program} {w:World} {B:Shared} {φ:List Addr} {σ:List AObj} {s:Shared} {env:Env} {ρ:List (Str×V)} {A:Around} {X:XT} {Q:V→List AObj→Prop}
theorem Val.int_ {h:Heap} (i:Int) (t:Tok):Val φ h (.int i) (.int i t):=by rw [Val];exact ⟨t,rfl⟩
theorem Val.str_ {h:Heap} (x:Str) (t:Tok):Val φ h (.str x) (.str x t):=by rw [Val];exact ⟨t,rfl⟩
theorem Val.bool_ {h:Heap} (b:Bool):Val φ h (.bool b) (.bool b):=by rw [Val]
theorem Val.none_ {h:Heap}:Val φ h .none .none:=by rw [Val]
theorem Val.of_int {h:Heap} {i:Int} {v:Value} (e:Val φ h (.int i) v):∃ t,v=.int i t:=by rw [Val] at e;exact e
theorem Val.of_str {h:Heap} {x:Str} {v:Value} (e:Val φ h (.str x) v):∃ t,v=.str x t:=by rw [Val] at e;exact e
theorem Val.of_bool {h:Heap} {b:Bool} {v:Value} (e:Val φ h (.bool b) v):v=.bool b:=by rw [Val] at e;exact e
theorem Val.of_none {h:Heap} {v:Value} (e:Val φ h .none v):v=.none:=by rw [Val] at e;exact e
theorem Val.of_raw {h:Heap} {u v:Value} (e:Val φ h (.raw u) v):v=u:=by rw [Val] at e;exact e
theorem Val.of_ref {h:Heap} {k:Nat} {v:Value} (e:Val φ h (.ref k) v):∃ a,v=.ref a∧φ[k]?=some a:=by rw [Val] at e;exact e
theorem Val.of_tup {h:Heap} {xs:List V} {v:Value} (e:Val φ h (.tup xs) v):∃ a vs,v=.ref a∧IsTup h a vs∧Vals φ h xs vs.toList:=by rw [Val] at e;exact e
theorem Val.raw_ {h:Heap} (v:Value):Val φ h (.raw v) v:=by rw [Val]
theorem beqD {α:Type} [DecidableEq α] (a b:α):(a == b)=decide (a=b):=by rw [Bool.eq_iff_iff];simp
theorem O_add {a b:Int} (q:Q (.int (a+b)) σ):W2 prog w B A (binaryOp .Add) (.int a) (.int b) σ Q X:=fun φ s v u G hv hu=>by
 obtain ⟨t,rfl⟩:=hv.of_int;obtain ⟨t',rfl⟩:=hu.of_int
 exact wpAny_add_int (Post.tok G ⟨_,.int_ _ _,q⟩)
theorem O_sub {a b:Int} (q:Q (.int (a - b)) σ):W2 prog w B A (binaryOp .Sub) (.int a) (.int b) σ Q X:=fun φ s v u G hv hu=>by
 obtain ⟨t,rfl⟩:=hv.of_int;obtain ⟨t',rfl⟩:=hu.of_int
 exact P.sub_int (Post.tok G ⟨_,.int_ _ _,q⟩)
theorem O_mul {a b:Int} (q:Q (.int (a * b)) σ) (hm:a.natAbs < 2 ^ 63∨b.natAbs < 2 ^ 63):W2 prog w B A (binaryOp .Mult) (.int a) (.int b) σ Q X:=fun φ s v u G hv hu=>by
 obtain ⟨t,rfl⟩:=hv.of_int;obtain ⟨t',rfl⟩:=hu.of_int
 exact P.mul_int (Post.tok G ⟨_,.int_ _ _,q⟩) (hm.elim (fun h=>IntMulOk.of_left (intBits_le_64 (by omega) (by omega))) fun h=>IntMulOk.of_right (intBits_le_64 (by omega) (by omega)))
theorem O_div {a b:Int} (q:Q (.int (a / b)) σ) (hb:0 < b) (hs:b.natAbs.log2 < 9000):W2 prog w B A (binaryOp .FloorDiv) (.int a) (.int b) σ Q X:=fun φ s v u G hv hu=>by
 obtain ⟨t,rfl⟩:=hv.of_int;obtain ⟨t',rfl⟩:=hu.of_int
 refine floordiv_int (by exact qBB hb) ?_ (.inl (PyProof.noPylong_of_log2 hs))
 rw [Int.fdiv_eq_ediv_of_nonneg _ (by exact qBK hb)]
 exact Post.tok G ⟨_,.int_ _ _,q⟩
theorem O_mod {a b:Int} (q:Q (.int (a % b)) σ) (hb:0 < b):W2 prog w B A (binaryOp .Mod) (.int a) (.int b) σ Q X:=fun φ s v u G hv hu=>by
 obtain ⟨t,rfl⟩:=hv.of_int;obtain ⟨t',rfl⟩:=hu.of_int
 refine mod_int' (by exact qBB hb) ?_
 rw [Int.fmod_eq_emod_of_nonneg _ (by exact qBK hb)]
 exact Post.tok G ⟨_,.int_ _ _,q⟩
theorem O_pow {a:Int} {n:Int} (q:Q (.int (a ^ n.toNat)) σ) (hn:0≤n) (hn2:n≤1000000) (ha:a.natAbs < 2 ^ 64):W2 prog w B A (binaryOp .Pow) (.int a) (.int n) σ Q X:=fun φ s v u G hv hu=>by
 obtain ⟨t,rfl⟩:=hv.of_int;obtain ⟨t',rfl⟩:=hu.of_int
 exact pow_int_small hn hn2 ha (Post.tok G ⟨_,.int_ _ _,q⟩)
theorem O_lt {a b:Int} (q:Q (.bool (decide (a < b))) σ):W2 prog w B A (compareOp .Lt) (.int a) (.int b) σ Q X:=fun φ s v u G hv hu=>by
 obtain ⟨t,rfl⟩:=hv.of_int;obtain ⟨t',rfl⟩:=hu.of_int
 exact P.lt_int (Post.here G ⟨_,.bool_ _,q⟩)
theorem O_le {a b:Int} (q:Q (.bool (decide (a≤b))) σ):W2 prog w B A (compareOp .LtE) (.int a) (.int b) σ Q X:=fun φ s v u G hv hu=>by
 obtain ⟨t,rfl⟩:=hv.of_int;obtain ⟨t',rfl⟩:=hu.of_int
 exact P.le_int (Post.here G ⟨_,.bool_ _,q⟩)
theorem O_gt {a b:Int} (q:Q (.bool (decide (b < a))) σ):W2 prog w B A (compareOp .Gt) (.int a) (.int b) σ Q X:=fun φ s v u G hv hu=>by
 obtain ⟨t,rfl⟩:=hv.of_int;obtain ⟨t',rfl⟩:=hu.of_int
 exact P.gt_int (Post.here G ⟨_,.bool_ _,q⟩)
theorem O_ge {a b:Int} (q:Q (.bool (decide (b≤a))) σ):W2 prog w B A (compareOp .GtE) (.int a) (.int b) σ Q X:=fun φ s v u G hv hu=>by
 obtain ⟨t,rfl⟩:=hv.of_int;obtain ⟨t',rfl⟩:=hu.of_int
 exact P.ge_int (Post.here G ⟨_,.bool_ _,q⟩)
theorem O_eq {a b:Int} (q:Q (.bool (decide (a=b))) σ):W2 prog w B A (compareOp .Eq) (.int a) (.int b) σ Q X:=fun φ s v u G hv hu=>by
 obtain ⟨t,rfl⟩:=hv.of_int;obtain ⟨t',rfl⟩:=hu.of_int
 exact P.eq_int (Post.here G ⟨_,.bool_ _,by rw [beqD];exact q⟩)
theorem O_ne {a b:Int} (q:Q (.bool (!decide (a=b))) σ):W2 prog w B A (compareOp .NotEq) (.int a) (.int b) σ Q X:=fun φ s v u G hv hu=>by
 obtain ⟨t,rfl⟩:=hv.of_int;obtain ⟨t',rfl⟩:=hu.of_int
 exact P.ne_int (Post.here G ⟨_,.bool_ _,by rw [bne,beqD];exact q⟩)
theorem O_adds {x y:Str} (q:Q (.str (x++y)) σ) (hsz:x.length+y.length≤sizeLine):W2 prog w B A (binaryOp .Add) (.str x) (.str y) σ Q X:=fun φ s v u G hv hu=>by
 obtain ⟨t,rfl⟩:=hv.of_str;obtain ⟨t',rfl⟩:=hu.of_str
 exact PyProof.Rows.add_str (fun t' tk=>Post.tok G ⟨_,.str_ _ _,q⟩) hsz
theorem O_eqs {x y:Str} (q:Q (.bool (decide (x=y))) σ):W2 prog w B A (compareOp .Eq) (.str x) (.str y) σ Q X:=fun φ s v u G hv hu=>by
 obtain ⟨t,rfl⟩:=hv.of_str;obtain ⟨t',rfl⟩:=hu.of_str
 exact PyProof.Rows.eq_str (Post.here G ⟨_,.bool_ _,by rw [beqD];exact q⟩)
theorem O_nes {x y:Str} (q:Q (.bool (!decide (x=y))) σ):W2 prog w B A (compareOp .NotEq) (.str x) (.str y) σ Q X:=fun φ s v u G hv hu=>by
 obtain ⟨t,rfl⟩:=hv.of_str;obtain ⟨t',rfl⟩:=hu.of_str
 exact PyProof.Rows.ne_str (Post.here G ⟨_,.bool_ _,by rw [bne,beqD];exact q⟩)
noncomputable def inS (x y:Str):Bool:=!(Builtin.Str.occurrences x y 0 x.length 1).isEmpty
theorem O_notins {x y:Str} (q:Q (.bool (!inS x y)) σ):W2 prog w B A (compareOp .NotIn) (.str y) (.str x) σ Q X:=fun φ s v u G hv hu=>by
 obtain ⟨t,rfl⟩:=hv.of_str;obtain ⟨t',rfl⟩:=hu.of_str
 exact PyProof.Rows.notIn_str (Post.here G ⟨_,.bool_ _,q⟩)
theorem O_eqb {a b:Bool} (q:Q (.bool (a == b)) σ):W2 prog w B A (compareOp .Eq) (.bool a) (.bool b) σ Q X:=fun φ s v u G hv hu=>by
 obtain rfl:=hv.of_bool;obtain rfl:=hu.of_bool
 exact PyProof.Rows.eq_bool (Post.here G ⟨_,.bool_ _,q⟩)
theorem O_is {x y:V} {b:Bool} (h:∀ (φ:List Addr) (hp:Heap) v u,Val φ hp x v→Val φ hp y u→plainIs v u=true∧(v == u)=b) (q:Q (.bool b) σ):W2 prog w B A (compareOp .Is) x y σ Q X:=fun φ s v u G hv hu=>by
 obtain ⟨h1,h2⟩:=h _ _ v u hv hu
 exact wpAny_is_plain h1 (Post.here G ⟨_,.bool_ _,h2 ▸ q⟩)
theorem O_isnot {x y:V} {b:Bool} (h:∀ (φ:List Addr) (hp:Heap) v u,Val φ hp x v→Val φ hp y u→plainIs v u=true∧(v == u)=b) (q:Q (.bool (!b)) σ):W2 prog w B A (compareOp .IsNot) x y σ Q X:=fun φ s v u G hv hu=>by
 obtain ⟨h1,h2⟩:=h _ _ v u hv hu
 exact wpAny_isNot_plain h1 (Post.here G ⟨_,.bool_ _,h2 ▸ q⟩)
theorem is_bools (a b:Bool):∀ (φ:List Addr) (hp:Heap) v u,Val φ hp (.bool a) v→Val φ hp (.bool b) u→plainIs v u=true∧(v == u)=(a == b):=fun φ hp v u hv hu=>by
 obtain rfl:=hv.of_bool;obtain rfl:=hu.of_bool
 refine ⟨rfl,?_⟩
 cases a <;> cases b <;> decide
theorem is_ref_none (k:Nat):∀ (φ:List Addr) (hp:Heap) v u,Val φ hp (.ref k) v→Val φ hp .none u→plainIs v u=true∧(v == u)=false:=fun φ hp v u hv hu=>by
 obtain ⟨a,rfl,_⟩:=hv.of_ref;obtain rfl:=hu.of_none
 exact ⟨rfl,rfl⟩
theorem O_isnot_bool {a b:Bool} (q:Q (.bool (!(a == b))) σ):W2 prog w B A (compareOp .IsNot) (.bool a) (.bool b) σ Q X:=O_isnot (is_bools a b) q
theorem O_is_ref_none {k:Nat} (q:Q (.bool false) σ):W2 prog w B A (compareOp .Is) (.ref k) .none σ Q X:=O_is (is_ref_none k) q
theorem T_b {b:Bool} {Q:Bool→List AObj→Prop} (q:Q b σ):W1 prog w B A truthy (.bool b) σ (bQ Q) X:=fun φ s v G hv=>by
 obtain rfl:=hv.of_bool
 exact wpAny_truthy_bool (Post.here G q)
theorem O_not {b:Bool} (q:Q (.bool (!b)) σ):W1 prog w B A (unaryOp .Not) (.bool b) σ (vQ Q) X:=fun φ s v G hv=>by
 obtain rfl:=hv.of_bool
 exact not_of (wpAny_truthy_bool (Post.here G ⟨_,.bool_ _,q⟩))
theorem E_cmp2 {l r₁ r₂:Expr} {op₁ op₂:CmpOp} {pos:Pos}
  (h:WE prog w B A env l ρ σ (fun x σ₁=>WE prog w B A env r₁ ρ σ₁ (fun y σ₂=>W2 prog w B A (compareOp op₁) x y σ₂ (fun c σ₃=>W1 prog w B A truthy c σ₃ (bQ fun b σ₄ =>
   if b then WE prog w B A env r₂ ρ σ₄ (fun z σ₅=>W2 prog w B A (compareOp op₂) y z σ₅ Q X) X else Q c σ₄) X) X) X) X)
  (hm:lastMarks [op₁,op₂] [r₁,r₂]=false:=by with_unfolding_all rfl):WE prog w B A env (.Compare l [op₁,op₂] [r₁,r₂] pos) ρ σ Q X:=fun φ s G L =>
 Compare_chain ((h φ s G L).useV (.refl ..) fun a s₁ φ₁ σ₁ t₁ _ G₁ x hx h₁=>chain_link ((h₁ φ₁ s₁ G₁ (L.step G t₁)).useV t₁ fun b s₂ φ₂ σ₂ t₂ t G₂ y hy h₂ =>
  (h₂ φ₂ s₂ a b G₂ (hx.step G₁ t₂) hy).useV t fun c s₃ φ₃ σ₃ t₃ t' G₃ z hz h₃=>(h₃ φ₃ s₃ c G₃ hz).use t' fun d s₄ φ₄ σ₄ t₄ t'' G₄ h₄=>by
   cases d
   ·exact ⟨_,_,t'',G₄,z,hz.step G₃ t₄,h₄⟩
   ·exact chain_last ((h₄ φ₄ s₄ G₄ (L.step G t'')).useV t'' fun e s₅ φ₅ σ₅ t₅ t5 G₅ z' hz' h₅=>(h₅ φ₅ s₅ b e G₅ (hy.step G₂ (t₃.trans0 (t₄.trans0 t₅))) hz').last t5))) hm
theorem T_cmp2 {l r₁ r₂:Expr} {op₁ op₂:CmpOp} {pos:Pos} {Q:Bool→List AObj→Prop}
  (h:WE prog w B A env l ρ σ (fun x σ₁=>WE prog w B A env r₁ ρ σ₁ (fun y σ₂=>W2 prog w B A (compareOp op₁) x y σ₂ (fun c σ₃=>W1 prog w B A truthy c σ₃ (bQ fun b σ₄ =>
   if b then WE prog w B A env r₂ ρ σ₄ (fun z σ₅=>W2 prog w B A (compareOp op₂) y z σ₅ (fun c' σ₆=>W1 prog w B A truthy c' σ₆ (bQ Q) X) X) X else Q false σ₄) X) X) X) X)
  (hm:lastMarks [op₁,op₂] [r₁,r₂]=false:=by with_unfolding_all rfl):WT prog w B A env (.Compare l [op₁,op₂] [r₁,r₂] pos) ρ σ Q X:=fun φ s G L =>
 isTrue_chain ((h φ s G L).useV (.refl ..) fun a s₁ φ₁ σ₁ t₁ _ G₁ x hx h₁=>test_link ((h₁ φ₁ s₁ G₁ (L.step G t₁)).useV t₁ fun b s₂ φ₂ σ₂ t₂ t G₂ y hy h₂ =>
  (h₂ φ₂ s₂ a b G₂ (hx.step G₁ t₂) hy).useV t fun c s₃ φ₃ σ₃ t₃ t' G₃ z hz h₃=>(h₃ φ₃ s₃ c G₃ hz).use t' fun d s₄ φ₄ σ₄ t₄ t'' G₄ h₄=>by
   cases d
   ·exact ⟨_,_,t'',G₄,h₄⟩
   ·exact test_last ((h₄ φ₄ s₄ G₄ (L.step G t'')).useV t'' fun e s₅ φ₅ σ₅ t₅ t5 G₅ z' hz' h₅=>(h₅ φ₅ s₅ b e G₅ (hy.step G₂ (t₃.trans0 (t₄.trans0 t₅))) hz').use t5
     fun c' s₆ φ₆ σ₆ t₆ t6 G₆ ⟨y',hy',h₆⟩=>(h₆ φ₆ s₆ c' G₆ hy').last t6))) hm
noncomputable def WBo (prog:Program) (w:World) (B:Shared) (A:Around) (env:Env) (op:BoolOp) (es:List Expr) (ρ:List (Str×V)) (σ:List AObj) (Q:V→List AObj→Prop) (X:XT):Prop :=
 ∀ pos φ s,St prog w B φ σ s→Loc A B env ρ φ s.heap→W prog w B A (boolOp pos op (evalEach es env)) φ s (vQ Q) X
theorem E_boolop {op:BoolOp} {es:List Expr} {pos:Pos} (h:WBo prog w B A env op es ρ σ Q X):WE prog w B A env (.BoolOp op es pos) ρ σ Q X:=fun φ s G L=>h pos φ s G L
theorem Bo_one {op:BoolOp} {e:Expr} (h:WE prog w B A env e ρ σ Q X):WBo prog w B A env op [e] ρ σ Q X:=fun pos φ s G L=>h φ s G L
theorem Bo_and {e e':Expr} {es:List Expr} (h:WE prog w B A env e ρ σ (fun v σ₁=>W1 prog w B A truthy v σ₁ (bQ fun b σ₂=>if b then WBo prog w B A env .And (e' :: es) ρ σ₂ Q X else Q v σ₂) X) X):WBo prog w B A env .And (e :: e' :: es) ρ σ Q X:=fun pos φ s G L=>by
 show wpAny _ _ (do
  let v ← eval e env
  standAt pos
  let t ← holding [v] (truthy v)
  match BoolOp.And,t with
  | .And,false | .Or,true=>pure v
  | _,_=>boolOp pos .And (evalEach (e' :: es) env)) _ _ _
 refine wpAny_bind ((h φ s G L).useV (.refl ..) fun a s₁ φ₁ σ₁ t₁ _ G₁ x hx h₁=>wpAny_bind (wpAny_standAt (wpAny_bind (wpAny_holding ((h₁ φ₁ s₁ a G₁ hx).use t₁ fun b s₂ φ₂ σ₂ t₂ t G₂ h₂=>?_)))))
 cases b
 ·exact wpAny_pure ⟨_,_,t,G₂,x,hx.step G₁ t₂,h₂⟩
 ·exact (h₂ pos φ₂ s₂ G₂ (L.step G t)).last t
theorem C_max {a b:Int} (hh:A.handled=none) (q:Q (.int (max a b)) σ):WC prog w B A (.builtin "max") [.int a,.int b] σ Q X:=fun φ s vs G FR hv=>by
 rw [Vals] at hv;obtain ⟨v,r,rfl,h1,hv⟩:=hv
 rw [Vals] at hv;obtain ⟨u,r,rfl,h2,hv⟩:=hv
 rw [Vals] at hv;subst hv
 obtain ⟨t,rfl⟩:=h1.of_int;obtain ⟨t',rfl⟩:=h2.of_int
 refine max_two_ints hh fun h' tk hk=>⟨φ,σ,.of_keeps hk,G.keeps hk,.int (max a b),?_,q⟩
 split
 ·rw [Int.max_eq_right (by exact qEG ‹_›)];exact .int_ _ _
 ·rw [Int.max_eq_left (by exact qEA ‹_›)];exact .int_ _ _
theorem C_min {a b:Int} (hh:A.handled=none) (q:Q (.int (min a b)) σ):WC prog w B A (.builtin "min") [.int a,.int b] σ Q X:=fun φ s vs G FR hv=>by
 rw [Vals] at hv;obtain ⟨v,r,rfl,h1,hv⟩:=hv
 rw [Vals] at hv;obtain ⟨u,r,rfl,h2,hv⟩:=hv
 rw [Vals] at hv;subst hv
 obtain ⟨t,rfl⟩:=h1.of_int;obtain ⟨t',rfl⟩:=h2.of_int
 refine min_two_ints hh fun h' tk hk=>⟨φ,σ,.of_keeps hk,G.keeps hk,.int (min a b),?_,q⟩
 split
 ·rw [Int.min_eq_right (by exact qEz ‹_›)];exact .int_ _ _
 ·rw [Int.min_eq_left (by exact qDi ‹_›)];exact .int_ _ _
end
end Mine
namespace Mine
open PySem PySem.W PySem.Calls PyProof.Rows
noncomputable def Keep (B:Shared) (f:Value):Prop :=
 ∀ (M:Model) (h:Heap),(∀ b o,B.heap.get? b=some o→h.get? b=some o)→∃ k,(k=Keeper.frame∨k=Keeper.machine∨k=Keeper.boundFrame)∧Looks M h (keeperOf f) k
section
variable {prog:Program} {w:World} {B:Shared} {φ:List Addr} {σ:List AObj} {s:Shared} {env:Env} {ρ:List (Str×V)} {A:Around} {X:XT} {Q:V→List AObj→Prop}
theorem Keep.builtin (id:String):Keep B (.builtin id):=fun M h _=>⟨.machine,.inr (.inl rfl),.now⟩
theorem Keep.type (T:String):Keep B (.type T):=fun M h _=>⟨.machine,.inr (.inl rfl),.now⟩
theorem Keep.fn {a:Addr} {names:List Str} {fd:FuncData} {body:List Stmt} (F:Fn B a names fd body):Keep B (.ref a):=fun M h hk=>by
 obtain ⟨o,ho,hd⟩:=F.at_
 refine ⟨.frame,.inl rfl,(Looks.ld (part:=none) (hk _ _ ho)).andThen ?_⟩
 rw [hd];exact .now
theorem evalArgs_any {M:Model} {E:Value→Shared→Prop} {f:Value} {args:List (Bool×Sem Value)} {R:Args→Shared→Prop} (hp:args.any (·.1)=false) (h:wpAny M A (spliced args) (fun vs s'=>R ⟨vs,[]⟩ s') E s) :
  wpAny M A (evalArgs f true args []) R E s:=by
 match args,hp,h with
 | [],_,h =>
  unfold evalArgs
  show wpAny M A (spliced [] >>= _) R E s
  refine wpAny_bind (wpAny_mono h (fun vs s' h'=>?_) fun _ _ x=>x)
  refine wpAny_holding ?_
  exact wpAny_bind (wpAny_pure (wpAny_bind (wpAny_pure (wpAny_pure h'))))
 | (false,x) :: rest,_,h=>exact evalArgs_plain h
 | (true,x) :: rest,hp,_=>simp at hp
theorem E_call {f:Value} {x:Str} {px pos:Pos} {es:List Expr} (hf:WE prog w B A env (.Name x px) ρ σ (fun y σ₁=>y=.raw f∧WEs prog w B A env es ρ σ₁ (fun xs σ₂=>WC prog w B A f xs σ₂ Q X) X) X) (hk:Keep B f)
  (hp:∀ pos,(backTo pos (starEach es env)).any (·.1)=false:=by intro _;with_unfolding_all rfl) :
  WE prog w B A env (.Call (.Name x px) es [] pos) ρ σ Q X:=fun φ s G L=>by
 refine wpAny_Call_NameR ((hf φ s G L).useV (.refl ..) fun v s₁ φ₁ σ₁ t₁ _ G₁ y hy ⟨e,h₁⟩=>?_)
 subst e
 have hv:=hy.of_raw
 subst hv
 refine callWith_of (P:=fun h=>∀ b o,B.heap.get? b=some o→h.get? b=some o) (by rw [hp pos];rfl) (fun h hb=>hk _ h hb) ?_
 have main:=(h₁ pos φ₁ s₁ G₁ (L.step G t₁)).use t₁ (R:=fun vs s₂=>(∀ b o,B.heap.get? b=some o→s₂.heap.get? b=some o)∧wpAny (model prog w) A (call v ([]++vs)) (Post prog w B [] φ s (vQ Q)) (Post prog w B [] φ s X) s₂) fun vs s₂ φ₂ σ₂ t₂ t G₂ ⟨xs,hxs,h₂⟩=>⟨G₂.base,(h₂ φ₂ s₂ vs G₂ (L.frs.step t) hxs).last t⟩
 exact evalArgs_any (hp pos) main
end
end Mine
namespace Mine
open PySem PySem.W PySem.Calls PyProof.Rows
section
variable {prog:Program} {w:World} {B:Shared} {φ φ':List Addr} {σ σ':List AObj} {s s':Shared} {env:Env} {ρ:List (Str×V)} {A:Around} {X:XT} {Q:V→List AObj→Prop}
structure Itr (prog:Program) (w:World) (B:Shared) (A:Around) (I:Addr) (n:Nat) (el:Nat→V) (C:List AObj→Prop) (Ss:Nat→List Addr→Heap→Prop):Prop where
 obj:∀ i φ h,Ss i φ h→∃ o,h.get? I=some o∧NoD o∧¬ Still o
 frame:∀ i φ φ' h h',Ss i φ h→φ <+: φ'→(∀ o,h.get? I=some o→h'.get? I=some o)→(∀ a o,h.get? a=some o→Still o→h'.get? a=some o)→Ss i φ' h'
 item:∀ i φ σ s (Q:Option Value→Shared→Prop) (E:Value→Shared→Prop),i < n→St prog w B φ σ s→C σ→Ss i φ s.heap→
  (∀ v h' tk,Val φ h' (el i) v→Ss (i+1) φ h'→(∀ b o,b≠I→s.heap.get? b=some o→h'.get? b=some o)→Q (some v) { s with heap:=h',toks:=tk })→wpAny (model prog w) A (pyNext (.ref I)) Q E s
 done:∀ φ σ s (Q:Option Value→Shared→Prop) (E:Value→Shared→Prop),St prog w B φ σ s→C σ→Ss n φ s.heap→
  (∀ h' tk,(∀ b o,b≠I→s.heap.get? b=some o→h'.get? b=some o)→Q none { s with heap:=h',toks:=tk })→wpAny (model prog w) A (pyNext (.ref I)) Q E s
 self:∀ i φ s (Q:Value→Shared→Prop) (E:Value→Shared→Prop),Ss i φ s.heap→Q (.ref I) s→wpAny (model prog w) A (pyIter (.ref I)) Q E s
noncomputable def WIt (prog:Program) (w:World) (B:Shared) (A:Around) (x:V) (σ σ₁:List AObj) (n:Nat) (el:Nat→V) (C:List AObj→Prop):Prop :=
 ∀ φ s v (R:Value→Shared→Prop) (E:Value→Shared→Prop),St prog w B φ σ s→Val φ s.heap x v→
  (∀ I h₁ Ss,(∀ b o,s.heap.get? b=some o→h₁.get? b=some o)→s.heap.get? I=none→I∉φ→Itr prog w B A I n el C Ss→Ss 0 φ h₁→St prog w B φ σ₁ { s with heap:=h₁ }→R (.ref I) { s with heap:=h₁ })→
  wpAny (model prog w) A (pyIter v) R E s
theorem St.but {s':Shared} {c:Addr} (G:St prog w B φ σ s) (hs:∀ b o,b≠c→s.heap.get? b=some o→s'.heap.get? b=some o) (hc:c∉φ) (hb:B.heap.get? c=none) (hn:∀ o,s.heap.get? c=some o→¬ Still o)
  (hg:s'.gens=s.gens:=by rfl) (ho:s'.os=s.os:=by rfl):St prog w B φ σ s':=by
 refine ⟨fun b o e=>hs b o (fun h=>by rw [h,hb] at e;cases e) (G.base b o e),G.new,G.nodup,G.len,fun k a ob h1 h2=>?_,hg.trans G.gens,ho.trans G.os,G.sys⟩
 refine (G.objs k a ob h1 h2).mono (List.prefix_refl _) (fun a o e hst=>hs a o (fun h=>hn o (h ▸ e) hst) e) fun o e=>hs a o (fun h=>hc (h ▸ List.mem_of_getElem? h1)) e
theorem Loc.but {h h':Heap} {c:Addr} (L:Loc A B env ρ φ h) (hs:∀ b o,b≠c→h.get? b=some o→h'.get? b=some o) (hc:c∉fr env) (hn:∀ o,h.get? c=some o→¬ Still o) (hF:Frs A B φ h'):Loc A B env ρ φ h':=by
 have hk:∀ a∈fr env,∀ o,h.get? a=some o→∃ o',h'.get? a=some o'∧Sim o o':=fun a ha o e=>⟨o,hs a o (fun h=>hc (h ▸ ha)) e,.refl o⟩
 refine ⟨L.kind,L.glob,L.blt,?_,L.own,fun x d hm=>?_,L.apart,fun x v hx=>?_,hF,L.top⟩
 ·obtain ⟨m,n⟩:=L.ns;exact ⟨m,Ns.upTo n (hk _ (.head _))⟩
 ·obtain ⟨v,n⟩:=L.cells x d hm;exact ⟨v,IsCell.upTo n (hk _ (mem_fr_cell hm))⟩
 ·obtain ⟨val,hb,hv⟩:=L.val x v hx
  refine ⟨val,?_,Val.mono (List.prefix_refl _) (fun a o e hst=>hs a o (fun h=>hn o (h ▸ e) hst) e) v hv⟩
  rcases hb with ⟨k,m,n,e⟩ | ⟨k,d,e,n⟩
  ·exact .inl ⟨k,m,Ns.upTo n (hk _ (.head _)),e⟩
  ·exact .inr ⟨k,d,e,IsCell.upTo n (hk _ (mem_fr_cell (mem_of_lookup e)))⟩
noncomputable def turnQ (Iv:List (Str×V)→List AObj→Prop) (C:List AObj→Prop) (Q:Fl→List (Str×V)→List AObj→Prop):Fl→List (Str×V)→List AObj→Prop
 | .next,ρ',σ'=>C σ'∧Iv ρ' σ'
 | .cont,ρ',σ'=>C σ'∧Iv ρ' σ'
 | .brk,ρ',σ'=>Q .next ρ' σ'
 | .ret x,ρ',σ'=>Q (.ret x) ρ' σ'
inductive XB (A:Around) (B:Shared) (env:Env):XT→XT→Prop
 | no {X:XT}:XB A B env (fun _ _ _ _=>False) X
 | exc {l:List (Str×V)} {R:Addr→List AObj→Prop}:XB A B env (xL A B env l (xQ R)) (xL A B env l (xQ R))
inductive LoopH (prog:Program) (w:World) (B:Shared) (A:Around) (env:Env) (x:Str) (body:List Stmt) (ρ:List (Str×V)) (Q:Fl→List (Str×V)→List AObj→Prop) (X:XT) (v:V) (σ':List AObj):Prop
 | mk:∀ σ₁ n el C X',XB A B env X' X→∀ Iv:Nat→List (Str×V)→List AObj→Prop,WIt prog w B A v σ' σ₁ n el C→C σ₁→Iv 0 ρ σ₁→
   (∀ i ρ₂ σ₂,i < n→C σ₂→Iv i ρ₂ σ₂→WX prog w B A env body ((x,el i) :: ρ₂) σ₂ (turnQ (Iv (i+1)) C Q) X')→
   (∀ ρ₂ σ₂,C σ₂→Iv n ρ₂ σ₂→Q .next ρ₂ σ₂)→LoopH prog w B A env x body ρ Q X v σ'
inductive ForI (prog:Program) (w:World) (B:Shared) (A:Around) (env:Env) (φ:List Addr) (h:Heap) (n:Nat) (I:Addr) (Ss:Nat→List Addr→Heap→Prop) (C:List AObj→Prop) (Iv:Nat→List (Str×V)→List AObj→Prop) (k:Nat) (s':Shared):Prop
 | mk:∀ i φ' σ' ρ',k=n - i→i≤n→Step (fr env) φ h φ' s'.heap→St prog w B φ' σ' s'→Loc A B env ρ' φ' s'.heap→I∉φ'→Ss i φ' s'.heap→C σ'→Iv i ρ' σ'→ForI prog w B A env φ h n I Ss C Iv k s'
theorem X_for {x:Str} {px pos:Pos} {iter:Expr} {body:List Stmt} {Q:Fl→List (Str×V)→List AObj→Prop}
  (h:WE prog w B A env iter ρ σ (fun v σ'=>LoopH prog w B A env x body ρ Q X v σ') X)
  (hx:env.kindOf x=some .local∨env.kindOf x=some .cell∧(env.cells.lookup x).isSome=true)
  (hs:∀ v,foldedSetIterable iter env v=pure v:=by intro _;with_unfolding_all rfl) (hl:∀ it v,letOwnedTupleGo (.Name x px) it v=pure ():=by intro _ _;with_unfolding_all rfl) :
  WX1 prog w B A env (.For (.Name x px) iter body [] pos) ρ σ Q X:=fun φ s G L=>by
 refine wpAny_For (h.then G L fun v s₁ φ₁ σ' y t₁ G₁ L₁ hy hq=>?_) hs
 obtain ⟨σ₁,n,el,C,X',hXB,Iv,hit,hC,hI,hbody,hend⟩:=hq
 refine hit φ₁ s₁ v _ _ G₁ hy fun I h₁ Ss hk hI0 hIφ W hS G₂=>?_
 have tk0:Step [] φ₁ s₁.heap φ₁ h₁:=.of_keeps hk
 have L₂:Loc A B env ρ φ₁ h₁:=L₁.step G₁ tk0
 have hIfr:I∉fr env:=fun hm=>by obtain ⟨o,e,_⟩:=L₁.there hm;rw [hI0] at e;cases e
 have hIB:B.heap.get? I=none:=G₁.baseSize hI0
 have hI0':s.heap.get? I=none:=by
  cases e:s.heap.get? I with
  | none=>rfl
  | some o =>
   by_cases hm:I∈φ
   ·exact absurd (t₁.pre.subset hm) hIφ
   ·obtain ⟨o',e',_⟩:=t₁.keep I o e hm (fun h=>nomatch h);rw [hI0] at e';cases e'
 have t₂:Step (fr env) φ s.heap φ₁ h₁:=Step.nilD (t₁.trans0 tk0)
 refine codeAny_forLoop_any (ForI prog w B A env φ s.heap n I Ss C Iv) ?_ n
  ⟨0,φ₁,σ₁,ρ,rfl,Nat.zero_le _,t₂,G₂,L₂,hIφ,hS,hC,hI⟩
 rintro k s' ⟨i,φ',σ',ρ',rfl,hin,tt,G',L',hIφ',hS',hC',hI'⟩
 by_cases hlt:i < n
 ·refine W.item i φ' σ' s' _ _ hlt G' hC' hS' fun v h₃ tk hv hS₃ hk₃=>?_
  refine wpAny_of_eq (hl _ _) ?_
  obtain ⟨oI,heI,hcI,hnI⟩:=W.obj _ _ _ hS'
  have hnI':∀ o,s'.heap.get? I=some o→¬ Still o:=fun o e=>by rw [heI] at e;cases e;exact hnI
  have G₃:St prog w B φ' σ' { s' with heap:=h₃,toks:=tk }:=G'.but (s':={ s' with heap:=h₃,toks:=tk }) hk₃ hIφ' hIB hnI'
  have L₃:Loc A B env ρ' φ' h₃:=L'.but hk₃ hIfr hnI' (L'.frs.at hk₃ (.inr fun o e=>by rw [heI] at e;cases e;exact hcI))
  refine wpAny_assign_Name (store_name (s:={ s' with heap:=h₃,toks:=tk }) G₃ L₃ hv hx fun h₄ tk₄ t₄ G₄ L₄=>?_)
  have t3:Step (fr env) φ s.heap φ' h₃:=by
   refine ⟨tt.pre,tt.fresh,fun b o e h1 h2=>?_⟩
   obtain ⟨o',e',hs'⟩:=tt.keep b o e h1 h2
   exact ⟨o',hk₃ b o' (fun h=>by rw [h,hI0'] at e;cases e) e',hs'⟩
  refine wpAny_mono (hbody i ρ' σ' hlt hC' hI' φ' _ G₄ L₄) (fun f s₅ hx=>?_) (fun e s₅ hx=>?_)
  rotate_left
  ·obtain ⟨φ₅,σ₅,t₅,G₅,x⟩:=hx
   cases hXB with
   | no=>exact x.elim
   | exc =>
    obtain ⟨⟨C,tq,τ,junk,ea,rfl,htb,rfl,ha,hR⟩,L₅⟩:=x
    exact came_W G₅ htb L₅ ha fun φ₂ t₂ junk₂ h₂ st htb₂ ha₂ G₂=>⟨φ₂,_,((t3.transF t₄ L₃).transF t₅ L₄).transF st.nilD L₅,G₂,⟨C,some t₂,τ,junk₂,ea,rfl,htb₂,rfl,ha₂,hR⟩,L₅.step G₅ st⟩
  obtain ⟨φ₅,σ₅,t₅,G₅,fl,ρ₅,hf,L₅,q⟩:=hx
  have t5:Step (fr env) φ s.heap φ₅ s₅.heap:=(t3.transF t₄ L₃).transF t₅ L₄
  have hS₄:Ss (i+1) φ' h₄:=by
   obtain ⟨oJ,heJ,hcJ,hnJ⟩:=W.obj _ _ _ hS₃
   refine W.frame _ _ _ _ _ hS₃ (List.prefix_refl _) (fun o e=>?_) (t₄.still G₃ (fr_notStill L₃))
   rw [heJ] at e;cases e
   obtain ⟨o',e',hs'⟩:=t₄.keep I oJ heJ hIφ' hIfr
   rw [hs'.same hcJ] at e';exact e'
  have hIφ₅:I∉φ₅:=fun hm=>by
   obtain ⟨oJ,heJ,hcJ,hnJ⟩:=W.obj _ _ _ hS₄
   rcases t₅.fresh I hm with h | h
   ·exact hIφ' h
   ·rw [heJ] at h;cases h
  have hS₅:Ss (i+1) φ₅ s₅.heap:=by
   obtain ⟨oJ,heJ,hcJ,hnJ⟩:=W.obj _ _ _ hS₄
   refine W.frame _ _ _ _ _ hS₄ t₅.pre (fun o e=>?_) (t₅.still G₄ (fr_notStill L₄))
   rw [heJ] at e;cases e
   obtain ⟨o',e',hs'⟩:=t₅.keep I oJ heJ hIφ' hIfr
   rw [hs'.same hcJ] at e';exact e'
  cases fl with
  | next=>obtain rfl:f=.next:=hf;exact ⟨n - (i+1),by exact qAL hlt,i+1,φ₅,σ₅,ρ₅,rfl,hlt,t5,G₅,L₅,hIφ₅,hS₅,q.1,q.2⟩
  | cont=>obtain rfl:f=.cont:=hf;exact ⟨n - (i+1),by exact qAL hlt,i+1,φ₅,σ₅,ρ₅,rfl,hlt,t5,G₅,L₅,hIφ₅,hS₅,q.1,q.2⟩
  | brk=>obtain rfl:f=.brk:=hf;exact ⟨φ₅,σ₅,t5,G₅,.next,ρ₅,rfl,L₅,q⟩
  | ret y=>obtain ⟨u,rfl,hu⟩:=hf;exact ⟨φ₅,σ₅,t5,G₅,.ret y,ρ₅,⟨u,rfl,hu⟩,L₅,q⟩
 ·have hin':i=n:=by exact qBc hin hlt
  subst hin'
  refine W.done φ' σ' s' _ _ G' hC' hS' fun h₃ tk hk₃=>?_
  obtain ⟨oI,heI,hcI,hnI⟩:=W.obj _ _ _ hS'
  have hnI':∀ o,s'.heap.get? I=some o→¬ Still o:=fun o e=>by rw [heI] at e;cases e;exact hnI
  have G₃:St prog w B φ' σ' { s' with heap:=h₃,toks:=tk }:=G'.but (s':={ s' with heap:=h₃,toks:=tk }) hk₃ hIφ' hIB hnI'
  have L₃:Loc A B env ρ' φ' h₃:=L'.but hk₃ hIfr hnI' (L'.frs.at hk₃ (.inr fun o e=>by rw [heI] at e;cases e;exact hcI))
  have t3:Step (fr env) φ s.heap φ' h₃:=by
   refine ⟨tt.pre,tt.fresh,fun b o e h1 h2=>?_⟩
   obtain ⟨o',e',hs'⟩:=tt.keep b o e h1 h2
   exact ⟨o',hk₃ b o' (fun h=>by rw [h,hI0'] at e;cases e) e',hs'⟩
  exact wpAny_execs_nil ⟨φ',σ',t3,G₃,.next,ρ',rfl,L₃,hend ρ' σ' hC' hI'⟩
end
end Mine
namespace Mine
open PySem PySem.W PySem.Calls PyProof.Rows
section
variable {prog:Program} {w:World} {B:Shared} {φ φ':List Addr} {σ σ':List AObj} {s s':Shared} {env:Env} {ρ:List (Str×V)} {A:Around} {X:XT} {Q:V→List AObj→Prop}
theorem St.get (G:St prog w B φ σ s) {k:Nat} {ob:AObj} (h:σ[k]?=some ob):∃ a,φ[k]?=some a∧ObjR prog w φ s.heap a ob:=by
 have hk:=(List.getElem?_eq_some_iff.mp h).1
 have e:=List.getElem?_eq_getElem (l:=φ) (i:=k) (G.len ▸ hk)
 exact ⟨_,e,G.objs k _ ob e h⟩
theorem idx_mono {k:Nat} {a:Addr} (hp:φ <+: φ') (h:φ[k]?=some a):φ'[k]?=some a:=by
 obtain ⟨r,rfl⟩:=hp
 rw [List.getElem?_append_left (List.getElem?_eq_some_iff.mp h).1];exact h
theorem Itr.ofWalks {I:Addr} {n:Nat} {el:Nat→V} {P:Nat→Value→Prop} {Sw:Nat→Heap→Prop} (W:Walks prog w A I [I] [I] n P Sw)
  (hobj:∀ i h,Sw i h→∃ o,h.get? I=some o∧NoD o∧¬ Still o) (hel:∀ (φ:List Addr) h i v,P i v→Val φ h (el i) v) :
  Itr prog w B A I n el (fun _=>True) (fun i _ h=>Sw i h) where
 obj:=fun i _ h hs=>hobj i h hs
 frame:=fun i _ _ h h' hs _ hk _=>W.frame i h h' hs fun b hb o e=>by simp at hb;subst hb;exact hk o e
 item:=fun i φ σ s Q E hi _ _ hs hq=>W.item i s Q E hi hs fun v h' tk hP hS hk=>hq v h' tk (hel _ _ _ _ hP) hS fun b o hb e=>hk b o (by simpa using hb) e
 done:=fun φ σ s Q E _ _ hs hq=>W.done s Q E hs fun h' tk hk=>hq h' tk fun b o hb e=>hk b o (by simpa using hb) e
 self:=fun i φ s Q E hs hq=>W.self i s Q E hs hq
theorem It_range {a b:Int} (hh:A.handled=none) (h1:-(2 ^ 62)≤a) (h2:a < 2 ^ 62) (h3:-(2 ^ 62)≤b) (h4:b < 2 ^ 62) :
  WIt prog w B A (.rng a b 1) σ σ (b - a).toNat (fun i=>.int (a+i)) (fun _=>True):=fun φ s v R E G hv k=>by
 rw [Val] at hv
 obtain ⟨r,t,u,kk,rfl,ho⟩:=hv
 refine wpAny_pyIter_range ho (small_one h1 h2 h3 h4) ?_
 have hsz:Builtin.Range.rangeSize a b 1=((b - a).toNat:Int):=by rw [rangeSize_one];split <;> omega
 have hk:∀ (c:Addr) (o:Obj),s.heap.get? c=some o→(s.heap.push { cls:=.type "range_iterator",data:=.fields #[rawInt a,rawInt (Builtin.Range.rangeSize a b 1),rawInt 1] }).get? c=some o:=fun c o e=>Heap.get?_push_of_some _ e
 refine k s.heap.objs.size _ _ hk (get?_size _) G.fresh (Itr.ofWalks (Walks.range hh s.heap.objs.size a 1 (b - a).toNat) (fun i h hs=>⟨_,hs,.fields rfl,notStill_type rfl (by decide) (by decide)⟩) fun φ h i v ⟨t,e⟩=>by subst e;simpa using Val.int_ _ _) ?_ (G.keeps hk)
 show IsRangeIter _ _ (a+((0:Nat):Int) * 1) (((b - a).toNat:Int) - ((0:Nat):Int)) 1
 have e1:(a+((0:Nat):Int) * 1)=a:=by simp
 have e2:(((b - a).toNat:Int) - ((0:Nat):Int))=Builtin.Range.rangeSize a b 1:=by rw [hsz];simp
 rw [e1,e2]
 exact Heap.get?_push_size _ rfl
noncomputable def signAt (x:Str) (i:Nat):Str:=⟨#[x.cps.getD i 0]⟩
theorem It_str {x:Str} (hh:A.handled=none):WIt prog w B A (.str x) σ σ x.cps.size (fun i=>.str (signAt x i)) (fun _=>True):=fun φ s v R E G hv k=>by
 obtain ⟨t,rfl⟩:=hv.of_str
 have hk:∀ (ob:Obj) (c:Addr) (o:Obj),s.heap.get? c=some o→(s.heap.push ob).get? c=some o:=fun ob c o e=>Heap.get?_push_of_some _ e
 have hel:∀ (φ:List Addr) (h:Heap) (i:Nat) (v:Value),SignAt x i v→Val φ h (.str (signAt x i)) v:=fun φ h i v ⟨c,u,hc,e⟩=>by
  subst e
  have:signAt x i=⟨#[c]⟩:=by unfold signAt;rw [Array.getD_eq_getD_getElem?,hc];rfl
  rw [this];exact .str_ _ _
 cases ha:x.cps.all (· < 128)
 ·refine wpAny_pyIter_wide ha (k s.heap.objs.size _ _ (hk _) (get?_size _) G.fresh (Itr.ofWalks (Walks.strWide hh s.heap.objs.size x t) (fun i h hs=>?_) hel) ⟨_,Heap.get?_push_size _ rfl,rfl,rfl⟩ (G.keeps (hk _)))
  obtain ⟨o,ho,hc,hd⟩:=hs
  exact ⟨o,ho,.fields hd,notStill_type hc (by decide) (by decide)⟩
 ·refine wpAny_pyIter_ascii ha (k s.heap.objs.size _ _ (hk _) (get?_size _) G.fresh (Itr.ofWalks (Walks.strAscii hh s.heap.objs.size x t) (fun i h hs=>?_) hel) ⟨_,Heap.get?_push_size _ rfl,rfl,rfl⟩ (G.keeps (hk _)))
  obtain ⟨o,ho,hc,hd⟩:=hs
  exact ⟨o,ho,.fields hd,notStill_type hc (by decide) (by decide)⟩
theorem It_list {k:Nat} {xs:List V} (hh:A.handled=none) (hσ:σ[k]?=some (.list xs)):WIt prog w B A (.ref k) σ σ xs.length (fun i=>xs.getD i .none) (fun σ'=>σ'[k]?=some (.list xs)):=fun φ s v R E G hv kont=>by
 obtain ⟨a,rfl,ha⟩:=hv.of_ref
 obtain ⟨a',ha',vs,n,ho,hvs⟩:=G.get hσ
 rw [ha] at ha';cases ha'
 have hk:∀ (c:Addr) (o:Obj),s.heap.get? c=some o→(s.heap.push { cls:=.type "list_iterator",data:=.fields #[.ref a,.int 0 0] }).get? c=some o:=fun c o e=>Heap.get?_push_of_some _ e
 refine wpAny_pyIter_list ⟨_,ho,rfl,n,rfl⟩ (kont s.heap.objs.size _ (fun i φ h=>∃ a,φ[k]?=some a∧a≠s.heap.objs.size∧h.IsListIter s.heap.objs.size a i) hk (get?_size _) G.fresh ?_ ⟨a,ha,fun e=>?_,⟨_,Heap.get?_push_size _ rfl,rfl,rfl⟩⟩ (G.keeps hk))
 ·refine ⟨fun i φ h ⟨a,_,_,o,ho,hc,hd⟩=>⟨o,ho,.fields hd,notStill_type hc (by decide) (by decide)⟩,fun i φ φ' h h' ⟨a,ha,hne,o,ho,r⟩ hp hk _=>⟨a,idx_mono hp ha,hne,o,hk o ho,r⟩,?_,?_,fun i φ s Q E ⟨a,_,_,hs⟩ hq=>wpAny_pyIter_listiter hs hq⟩
  ·intro i φ' σ' s' Q E hi G' hC ⟨a,ha,hne,hs⟩ hq
   obtain ⟨a',ha',vs,n,ho,hvs⟩:=G'.get hC
   rw [ha] at ha';cases ha'
   obtain ⟨v,hv,hvv⟩:=hvs.get (i:=i) (x:=xs.getD i .none) (by rw [List.getD_eq_getElem?_getD,List.getElem?_eq_getElem hi];rfl)
   refine wpAny_pyNext_list_item hs ⟨_,ho,rfl,n,rfl⟩ (by rw [← Array.getElem?_toList];exact hv) fun h' hs' hsb=>?_
   obtain ⟨oI,heI,hcI,_⟩:=hs
   exact hq v h' _ (hvv.sameBut hsb fun o e=>by rw [heI] at e;cases e;exact notStill_type hcI (by decide) (by decide)) ⟨a,ha,hne,hs'⟩ fun b o hb e=>hsb.extBut b o hb e
  ·intro φ' σ' s' Q E G' hC ⟨a,ha,hne,hs⟩ hq
   obtain ⟨a',ha',vs,n,ho,hvs⟩:=G'.get hC
   rw [ha] at ha';cases ha'
   refine wpAny_pyNext_list_end hh hs ⟨_,ho,rfl,n,rfl⟩ ?_ fun h' hx=>hq h' _ fun b o hb e=>hx b o hb e
   have:=hvs.length
   rw [← Array.getElem?_toList,List.getElem?_eq_none];(exact qAS this)
 ·rw [e,get?_size] at ho;cases ho
theorem St.notSys (G:St prog w B φ σ s) {a:Addr} (ha:a∈φ):(a == sysModules)=false:=by
 cases e:a == sysModules with
 | false=>rfl
 | true=>exact absurd (eq_of_beq e ▸ ha) G.sys.2
noncomputable def pin (σ:List AObj) (k:Nat) (es:List (Key×V)) (ep:Nat):List AObj:=σ.set k (.dict es (some ep))
theorem St.pin {k:Nat} {es:List (Key×V)} {e:Option Nat} (G:St prog w B φ σ s) (hσ:σ[k]?=some (.dict es e)):∃ ep,(∀ n,e=some n→ep=n)∧St prog w B φ (pin σ k es ep) s∧
  ∃ a kvs,φ[k]?=some a∧s.heap.DictAt (kk prog w) a kvs ep∧Ents φ s.heap es kvs:=by
 obtain ⟨a,ha,kvs,ep,h1,h2,h3⟩:=G.get hσ
 refine ⟨ep,h3,?_,a,kvs,ha,h1,h2⟩
 have hk:=(List.getElem?_eq_some_iff.mp hσ).1
 refine ⟨G.base,G.new,G.nodup,by simp [Mine.pin,G.len],fun j b ob j1 j2=>?_,G.gens,G.os,G.sys⟩
 by_cases hj:j=k
 ·subst hj
  rw [Mine.pin,List.getElem?_set_self hk] at j2;cases j2
  rw [ha] at j1;cases j1
  exact ⟨kvs,ep,h1,h2,fun n e=>by cases e;rfl⟩
 ·rw [Mine.pin,List.getElem?_set_ne (Ne.symm hj)] at j2
  exact G.objs j b ob j1 j2
theorem St.unpin {k:Nat} {es:List (Key×V)} {e:Option Nat} {ep:Nat} (G:St prog w B φ σ s) (hσ:σ[k]?=some (.dict es (some ep))) (he:∀ n,e=some n→ep=n):St prog w B φ (σ.set k (.dict es e)) s:=by
 have hk:=(List.getElem?_eq_some_iff.mp hσ).1
 refine ⟨G.base,G.new,G.nodup,by simp [G.len],fun j b ob j1 j2=>?_,G.gens,G.os,G.sys⟩
 by_cases hj:j=k
 ·subst hj
  rw [List.getElem?_set_self hk] at j2;cases j2
  obtain ⟨a,ha,kvs,ep',h1,h2,h3⟩:=G.get hσ
  rw [ha] at j1;cases j1
  have:=h3 ep rfl
  subst this
  exact ⟨kvs,ep',h1,h2,he⟩
 ·rw [List.getElem?_set_ne (Ne.symm hj)] at j2
  exact G.objs j b ob j1 j2
theorem Ents.get {h:Heap}:∀ {es:List (Key×V)} {kvs:List (Key×Value)},Ents φ h es kvs→∀ {i:Nat} {p:Key×V},es[i]?=some p→∃ v,kvs[i]?=some (p.1,v)∧Val φ h p.2 v
 | _,_,.nil,i,p,hp=>by simp at hp
 | _,_,.cons h1 h2,0,p,hp=>by simp at hp;subst hp;exact ⟨_,rfl,h1⟩
 | _,_,.cons h1 h2,i+1,p,hp=>by simpa using Ents.get h2 (by simpa using hp)
theorem Key.val {h:Heap} {k:Key} {v:Value} (e:k.is v=true):Val φ h k.v v:=by
 rcases Key.is_shape e with ⟨x,t,rfl,rfl⟩ | ⟨n,t,rfl,rfl⟩
 ·exact .str_ _ _
 ·exact .int_ _ _
noncomputable def keyAt (es:List (Key×V)) (i:Nat):V:=(es.getD i (.i 0,.none)).1.v
theorem It_dict {k:Nat} {es:List (Key×V)} {e:Option Nat} {ep:Nat} (hh:A.handled=none) (hσ:σ[k]?=some (.dict es (some ep)))   :
  WIt prog w B A (.ref k) σ σ es.length (keyAt es) (fun σ'=>σ'[k]?=some (.dict es (some ep))):=fun φ s v R E G hv kont=>by
 obtain ⟨a,rfl,ha⟩:=hv.of_ref
 obtain ⟨a',ha',kvs,ep',hd,hvs,hep⟩:=G.get hσ
 rw [ha] at ha';cases ha'
 obtain rfl:=hep ep rfl
 have hlen:=hvs.length
 have hk:∀ (c:Addr) (o:Obj),s.heap.get? c=some o→(s.heap.push { cls:=.type "dict_keyiterator",data:=.fields #[.ref a,.int 0 0,.int kvs.length 0,.int ep' 0] }).get? c=some o:=fun c o e=>Heap.get?_push_of_some _ e
 refine wpAny_pyIter_dict (G.notSys (List.mem_of_getElem? ha)) hd (kont s.heap.objs.size _ (fun i φ h=>∃ a,φ[k]?=some a∧a≠s.heap.objs.size∧h.IsKeyIter s.heap.objs.size a i es.length ep') hk (get?_size _) G.fresh ?_ ⟨a,ha,fun e=>?_,⟨_,Heap.get?_push_size _ rfl,rfl,by rw [hlen];rfl⟩⟩ (G.keeps hk))
 ·refine ⟨fun i φ h ⟨a,_,_,o,ho,hc,hd⟩=>⟨o,ho,.fields hd,notStill_type hc (by decide) (by decide)⟩,fun i φ φ' h h' ⟨a,ha,hne,o,ho,r⟩ hp hk _=>⟨a,idx_mono hp ha,hne,o,hk o ho,r⟩,?_,?_,fun i φ s Q E ⟨a,_,_,hs⟩ hq=>wpAny_pyIter_keyiter hs hq⟩
  ·intro i φ' σ' s' Q E hi G' hC ⟨a,ha,hne,hs⟩ hq
   obtain ⟨a',ha',kvs,ep2,hd2,hvs2,hep2⟩:=G'.get hC
   rw [ha] at ha';cases ha'
   have hee:=hep2 _ rfl
   subst hee
   obtain ⟨v,hv,hvv⟩:=hvs2.get (i:=i) (p:=es[i]) (List.getElem?_eq_getElem hi)
   refine wpAny_pyNext_dict_item (by rw [hvs2.length];exact hs) hd2 hv fun key h' hkey hs' hsb=>?_
   rw [hvs2.length] at hs'
   refine hq key h' _ ?_ ⟨a,ha,hne,hs'⟩ fun b o hb e=>hsb.extBut b o hb e
   have:keyAt es i=(es[i]).1.v:=by unfold keyAt;rw [List.getD_eq_getElem?_getD,List.getElem?_eq_getElem hi];rfl
   rw [this];exact Key.val hkey
  ·intro φ' σ' s' Q E G' hC ⟨a,ha,hne,hs⟩ hq
   obtain ⟨a',ha',kvs,ep2,hd2,hvs2,hep2⟩:=G'.get hC
   rw [ha] at ha';cases ha'
   have hee:=hep2 _ rfl
   subst hee
   refine wpAny_pyNext_dict_end hh (by rw [hvs2.length];exact hs) hd2 ?_ fun h' hx=>hq h' _ fun b o hb e=>hx b o hb e
   rw [List.getElem?_eq_none];rw [hvs2.length];exact Nat.le_refl _
 ·have:=hd.lt_size;rw [e] at this;exact Nat.lt_irrefl _ this
end
end Mine
namespace Mine
open PySem PySem.W PySem.Calls PyProof.Rows
noncomputable def sub (ρ:List (Str×V)) (fv:List Str):List (Str×V):=fv.filterMap fun x=>(ρ.lookup x).map fun v=>(x,v)
theorem sub_lookup {ρ:List (Str×V)}:∀ {fv:List Str} {x:Str} {v:V},(sub ρ fv).lookup x=some v→x∈fv∧ρ.lookup x=some v
 | [],x,v,h=>by simp [sub] at h
 | y :: r,x,v,h=>by
  unfold sub at h
  rw [List.filterMap_cons] at h
  cases e:ρ.lookup y with
  | none=>rw [e] at h;simp only [Option.map_none] at h;obtain ⟨h1,h2⟩:=sub_lookup (fv:=r) h;exact ⟨.tail _ h1,h2⟩
  | some u =>
   rw [e] at h
   simp only [Option.map_some,List.lookup_cons] at h
   cases hb:x == y with
   | true=>rw [hb] at h;cases h;have:=eq_of_beq hb;subst this;exact ⟨.head _,e⟩
   | false=>rw [hb] at h;obtain ⟨h1,h2⟩:=sub_lookup (fv:=r) h;exact ⟨.tail _ h1,h2⟩
section
variable {prog:Program} {w:World} {B:Shared} {φ φ':List Addr} {σ σ':List AObj} {s s':Shared} {env:Env} {ρ:List (Str×V)} {A:Around} {X:XT} {Q:V→List AObj→Prop}
structure CompOk (env:Env) (scope:Scope) (cl:List (Str×Addr)) (x:Str) (fv:List Str):Prop where
 clos:closureFor scope env=pure cl
 cell:∀ y∈scope.names,y.2≠.cell
 kind:scope.kind=.function
 names:∀ y∈scope.names,y.2=.local→scope.names.lookup y.1=some .local
 x:scope.names.lookup x=some .local
 mem:∀ p∈cl,p∈env.cells
 apart:cl.Pairwise fun x y=>x.2≠y.2
 fv:∀ y∈fv,(relabel scope env).names.lookup y=some .cell∧env.kindOf y=some .cell∧cl.lookup y=env.cells.lookup y
theorem St.setList {k:Nat} {c:Addr} {ys:List V} {s':Shared} {items:Array Value} {n:Nat} (G:St prog w B φ σ s) (hc:φ[k]?=some c) (hs:Heap.SameBut c s.heap s'.heap) (ho:s'.heap.get? c=some { cls:=.type "list",data:=.seq items n })
  (hv:Vals φ s.heap ys items.toList) (hn:∀ o,s.heap.get? c=some o→¬ Still o) (hg:s'.gens=s.gens:=by rfl) (hos:s'.os=s.os:=by rfl):St prog w B φ (σ.set k (.list ys)) s' :=
 G.update hc hs ⟨items,n,ho,Vals.mono (List.prefix_refl _) (fun a o e hst=>hs.extBut a o (fun h=>hn o (h ▸ e) hst) e) ys hv⟩ hg hos
theorem list_append {k:Nat} {a:Addr} {ys:List V} {y:V} {v:Value} {R:Value→Shared→Prop} {E:Value→Shared→Prop} (G:St prog w B φ σ s) (hk:φ[k]?=some a) (hσ:σ[k]?=some (.list ys)) (hy:Val φ s.heap y v) (hl:ys.length≤sizeLine)
  (h:∀ h',Heap.SameBut a s.heap h'→St prog w B φ (σ.set k (.list (ys++[y]))) { s with heap:=h' }→R .none { s with heap:=h' }) :
  wpAny (model prog w) A (call (.builtin "list.append") [.ref a,v]) R E s:=by
 obtain ⟨a',ha',vs,n,ho,hvs⟩:=G.get hσ
 rw [hk] at ha';cases ha'
 have hn:∀ o,s.heap.get? a=some o→¬ Still o:=fun o e=>G.notStill (List.mem_of_getElem? hk) e
 refine wpAny_list_append_plain (hsz:=by have:=hvs.length;simp at this;(clear hn ho hvs h hy hσ hk G;lia)) ⟨n,ho⟩ fun h' ⟨n',ho'⟩ hs=>h h' hs (G.setList (s':={ s with heap:=h' }) hk hs ho' ?_ hn)
 simpa using hvs.append (Vals.cons hy .nil)
theorem comp_core {elt iter:Expr} {x:Str} {px:Pos} {scope:Scope} {cl:List (Str×Addr)} {pos:Pos} {fv:List Str} {I:Addr} {n:Nat} {el:Nat→V} {C:List AObj→Prop} {Ss:Nat→List Addr→Heap→Prop} {RR:Value→Addr→Result→Shared→Prop} {E:Value→Shared→Prop}
  (K:CompOk env scope cl x fv) (W:Itr prog w B A I n el C Ss) (G:St prog w B φ σ s) (L:Loc A B env ρ φ s.heap) (hIφ:I∉φ) (hIB:B.heap.get? I=none) (hIfr:I∉fr env) (hS:Ss 0 φ s.heap)
  (Iv:Nat→List AObj→Prop) (hC:C (σ++[.list []])) (hI:Iv 0 (σ++[.list []]))
  (helt:∀ D i σ₂,i < n→C σ₂→Iv i σ₂→WE prog w B A (compEnvC scope cl D env) elt ((x,el i) :: sub ρ fv) σ₂ (fun y σ₃=>∃ ys,σ₃[σ.length]?=some (.list ys)∧ys.length≤sizeLine∧C (σ₃.set σ.length (.list (ys++[y])))∧Iv (i+1) (σ₃.set σ.length (.list (ys++[y])))) (fun _ _ _ _=>False))
  (hRR:∀ a D φ' σ' h' tk gs dr os,φ'[σ.length]?=some a→s.heap.get? D=none→D∉φ'→B.heap.get? D=none→(∃ m,h'.Ns D m)→(∀ b o,b≠I→s.heap.get? b=some o→b∉φ→∃ o',h'.get? b=some o'∧Sim o o')→φ <+: φ'→(∀ b∈φ',b∈φ∨s.heap.get? b=none)→
   St prog w B φ' σ' ⟨h',gs,dr,tk,os⟩→C σ'→Iv n σ'→RR (.ref a) D (.ok .next) ⟨h',gs,dr,tk,os⟩) :
  wpAny (model prog w) A (newList []) (fun acc s₃=>wpAny (model prog w) A (newFunctionEnv scope env.globals cl [] env.qual none .none (some env)) (fun cenv s₄ =>
   codeAny (model prog w) A (.compStart (.ListComp elt [⟨.Name x px,iter,[],0⟩] scope pos) 0 (.ref I) acc { cenv with scope:=relabel scope env }) (RR acc cenv.locals) s₄) E s₃) E s:=by
 refine wpAny_newList ?_ (by simp)
 have hk1:∀ b o,s.heap.get? b=some o→(s.heap.push { cls:=.type "list",data:=.seq ([]:List Value).toArray }).get? b=some o:=fun b o e=>Heap.get?_push_of_some _ e
 have t1:Step [] φ s.heap (φ++[s.heap.objs.size]) (s.heap.push { cls:=.type "list",data:=.seq ([]:List Value).toArray }):=Step.alloc (s':={ s with heap:=s.heap.push { cls:=.type "list",data:=.seq ([]:List Value).toArray } }) (get?_size _) hk1
 have G1:St prog w B (φ++[s.heap.objs.size]) (σ++[.list []]) { s with heap:=s.heap.push { cls:=.type "list",data:=.seq ([]:List Value).toArray } } :=
  G.alloc (ob:=.list []) (get?_size _) hk1 ⟨_,0,Heap.get?_push_size _ rfl,by simpa using Vals.nil⟩ G.fresh G.sizeNe
 refine wpAny_newFunctionEnv K.cell (by intro y hy;simp at hy) (fun h2 hns2 hsb2=>?_) K.kind
 dsimp only at hns2 hsb2 ⊢
 generalize hH:s.heap.push { cls:=.type "list",dict:=none,data:=.seq ([]:List Value).toArray } = H at hk1 t1 G1 hns2 hsb2 ⊢
 have hHs:H.objs.size=s.heap.objs.size+1:=by rw [← hH,Heap.size_push]
 have hD0:H.get? H.objs.size=none:=get?_size _
 have hk2:∀ b o,H.get? b=some o→h2.get? b=some o:=fun b o e=>hsb2.extBut b o (Nat.ne_of_lt (Heap.lt_size e)) (Heap.get?_push_of_some _ e)
 have G2:St prog w B (φ++[s.heap.objs.size]) (σ++[.list []]) { s with heap:=h2,toks:=s.toks+([]:List (Str×Value)).length }:=G1.keeps (s':={ s with heap:=h2,toks:=s.toks+([]:List (Str×Value)).length }) hk2
 have hkk:∀ b o,s.heap.get? b=some o→h2.get? b=some o:=fun b o e=>hk2 b o (hk1 b o e)
 have hDφ:H.objs.size∉φ++[s.heap.objs.size]:=G1.fresh
 have hDB:B.heap.get? H.objs.size=none:=G1.baseSize hD0
 have hDs:s.heap.get? H.objs.size=none:=get?_of_ge (by (clear hDB hDφ hkk G2 hk2 hD0 hsb2 hns2 G1 t1 hk1 hH hRR helt hI hC hS hIfr hIB hIφ L G W K;lia))
 have hla:(φ++[s.heap.objs.size])[σ.length]?=some s.heap.objs.size:=by rw [← G.len];simp
 have hIs:∃ o,s.heap.get? I=some o∧NoD o∧¬ Still o:=W.obj _ _ _ hS
 have hIlt:I < s.heap.objs.size:=let ⟨_,e,_⟩:=hIs;Heap.lt_size e
 have hID:I≠H.objs.size:=Nat.ne_of_lt (by rw [hHs];exact Nat.lt_succ_of_lt hIlt)
 have hIφ1:I∉φ++[s.heap.objs.size]:=fun h=>(List.mem_append.mp h).elim hIφ fun h=>Nat.ne_of_lt hIlt (List.mem_singleton.mp h)
 have hS2:Ss 0 (φ++[s.heap.objs.size]) h2:=W.frame _ _ _ _ _ hS (List.prefix_append _ _) (fun o e=>hkk _ _ e) fun a o e _=>hkk _ _ e
 have hIfr2:I∉fr (compEnvC scope cl H.objs.size env):=fun h=>by
  rcases List.mem_cons.mp h with h | h
  ·exact hID h
  ·obtain ⟨p,hp,e⟩:=List.mem_map.mp h
   exact hIfr (e ▸ mem_fr_cell (x:=p.1) (c:=p.2) (K.mem p hp))
 have L2:Loc A B (compEnvC scope cl H.objs.size env) (sub ρ fv) (φ++[s.heap.objs.size]) h2:=by
  have Le:=(L.step G t1)
  refine ⟨K.kind,L.glob,L.blt,⟨_,hns2⟩,fun a ha=>?_,fun y c hm=>?_,K.apart,fun y v hy=>?_,Le.frs.step (.of_keeps hk2),L.top⟩
  ·rcases List.mem_cons.mp ha with rfl | ha
   ·exact ⟨hDφ,hDB⟩
   ·obtain ⟨p,hp,e⟩:=List.mem_map.mp ha
    exact Le.own a (e ▸ mem_fr_cell (x:=p.1) (c:=p.2) (K.mem p hp))
  ·obtain ⟨v,hv⟩:=L.cells y c (K.mem _ hm)
   exact ⟨v,hv.keeps hkk⟩
  ·obtain ⟨hyf,hyl⟩:=sub_lookup hy
   obtain ⟨hy1,hy2,hy3⟩:=K.fv y hyf
   obtain ⟨val,hb,hv⟩:=L.val y v hyl
   refine ⟨val,?_,(hv.step G t1).step G1 (.of_keeps hk2)⟩
   rcases hb with ⟨k,_⟩ | ⟨k,c,e,hc⟩
   ·rw [hy2] at k;cases k
   ·exact .inr ⟨.inl hy1,c,hy3.trans e,hc.keeps hkk⟩
 have loop:codeAny (model prog w) A (.compLoop (.ListComp elt [⟨.Name x px,iter,[],0⟩] scope pos) 0 (.ref I) (.ref s.heap.objs.size) (compEnvC scope cl H.objs.size env)) (RR (.ref s.heap.objs.size) H.objs.size) { s with heap:=h2,toks:=s.toks+([]:List (Str×Value)).length }:=by
  refine codeAny_compLoop_list (fun k s'=>∃ i φ' σ',k=n - i∧i≤n∧φ++[s.heap.objs.size] <+: φ'∧(∀ b∈φ',b∈φ++[s.heap.objs.size]∨h2.get? b=none)∧
   (∀ b o,b≠I→h2.get? b=some o→b∉φ++[s.heap.objs.size]→b≠H.objs.size→∃ o',s'.heap.get? b=some o'∧Sim o o')∧
   St prog w B φ' σ' s'∧Loc A B (compEnvC scope cl H.objs.size env) (sub ρ fv) φ' s'.heap∧I∉φ'∧Ss i φ' s'.heap∧C σ'∧Iv i σ') ?_ n
   ⟨0,_,_,rfl,Nat.zero_le _,List.prefix_refl _,fun b h=>.inl h,fun b o _ e _ _=>⟨o,e,.refl o⟩,G2,L2,hIφ1,hS2,hC,hI⟩
  rintro k s' ⟨i,φ',σ',rfl,hin,hp,hfr,hkp,G',L',hIφ',hS',hC',hI'⟩
  obtain ⟨oI,heI,hcI,hnI⟩:=W.obj _ _ _ hS'
  have hnI':∀ o,s'.heap.get? I=some o→¬ Still o:=fun o e=>by rw [heI] at e;cases e;exact hnI
  by_cases hlt:i < n
  ·refine W.item i φ' σ' s' _ _ hlt G' hC' hS' fun v h₃ tk hv hS₃ hk₃=>?_
   have G₃:St prog w B φ' σ' { s' with heap:=h₃,toks:=tk }:=G'.but (s':={ s' with heap:=h₃,toks:=tk }) hk₃ hIφ' hIB hnI'
   have L₃:Loc A B (compEnvC scope cl H.objs.size env) (sub ρ fv) φ' h₃:=L'.but hk₃ hIfr2 hnI' (L'.frs.at hk₃ (.inr fun o e=>by obtain ⟨oI,heI,hcI,_⟩:=W.obj _ _ _ hS';rw [heI] at e;cases e;exact hcI))
   obtain ⟨oJ,heJ,hcJ,hnJ⟩:=W.obj _ _ _ hS₃
   refine wpAny_assign_Name (store_local (s:={ s' with heap:=h₃,toks:=tk }) (y:=el i) G₃ L₃ hv (lookup_relabel_local K.x) fun h₄ tk₄ hs₄ G₄ L₄=>?_)
   have hD4:(compEnvC scope cl H.objs.size env).locals=H.objs.size:=rfl
   rw [hD4] at hs₄
   refine wpAny_mono (helt H.objs.size i σ' hlt hC' hI' φ' _ G₄ L₄) (fun y s₅ hx=>?_) (fun e s₅ hx=>by obtain ⟨_,_,_,_,x⟩:=hx;exact x.elim)
   obtain ⟨φ₅,σ₅,t₅,G₅,yv,hyv,ys,hys,hyl,hC5,hI5⟩:=hx
   have hla':φ₅[σ.length]?=some s.heap.objs.size:=idx_mono t₅.pre (idx_mono hp hla)
   have ham:s.heap.objs.size∈φ++[s.heap.objs.size]:=List.mem_append_right _ (.head _)
   refine list_append G₅ hla' hys hyv hyl fun h₆ hs₆ G₆=>?_
   have eI4:h₄.get? I=some oJ:=hs₄.extBut I oJ hID heJ
   have hIφ₅:I∉φ₅:=fun hm=>by
    rcases t₅.fresh I hm with h | h
    ·exact hIφ' h
    ·rw [eI4] at h;cases h
   have eI5:s₅.heap.get? I=some oJ:=by
    obtain ⟨o',e',hs'⟩:=t₅.keep I oJ eI4 hIφ' (fun h=>nomatch h)
    rw [hs'.same hcJ] at e';exact e'
   have hIa:I≠s.heap.objs.size:=Nat.ne_of_lt hIlt
   have eI6:h₆.get? I=some oJ:=hs₆.extBut I oJ hIa eI5
   have hS₄:Ss (i+1) φ' h₄:=W.frame _ _ _ _ _ hS₃ (List.prefix_refl _) (fun o e=>by rw [heJ] at e;cases e;exact eI4) fun a o e hst=>hs₄.extBut a o (fun h=>fr_notStill L₃ _ (.head _) o (by rw [h] at e;exact e) hst) e
   have hS₅:Ss (i+1) φ₅ s₅.heap:=W.frame _ _ _ _ _ hS₄ t₅.pre (fun o e=>by rw [eI4] at e;cases e;exact eI5) (t₅.still G₄ fun _ h=>nomatch h)
   have ham5:s.heap.objs.size∈φ₅:=List.mem_of_getElem? hla'
   have hS₆:Ss (i+1) φ₅ h₆:=W.frame _ _ _ _ _ hS₅ (List.prefix_refl _) (fun o e=>by rw [eI5] at e;cases e;exact eI6) fun a o e hst=>hs₆.extBut a o (fun h=>G₅.notStill (h ▸ ham5) e hst) e
   refine ⟨n - (i+1),by (clear hS₆ ham5 hS₅ hS₄ eI6 hIa eI5 hIφ₅ eI4 G₆ hs₆ ham hla' hI5 hC5 hyl hys hyv G₅ t₅ hD4 L₄ G₄ hs₄ hnJ hcJ heJ L₃ G₃ hk₃ hS₃ hv hnI' hnI hcI heI hI' hC' hS' hIφ' L' G' hkp hfr hp hin L2 hIfr2 hS2 hIφ1 hID hIlt hIs hla hDs hDB hDφ hkk G2 hk2 hD0 hHs hsb2 hns2 G1 t1 hk1 hH hRR helt hI hC hS hIfr hIB hIφ L G W K;lia),i+1,φ₅,_,rfl,hlt,hp.trans t₅.pre,fun b hb=>?_,fun b o hb e h1 h2=>?_,G₆,?_,hIφ₅,hS₆,hC5,hI5⟩
   ·rcases t₅.fresh b hb with h | h
    ·exact hfr b h
    ·by_cases hbH:b=H.objs.size
     ·subst hbH
      obtain ⟨o,e,_⟩:=L₄.there (.head _)
      rw [hD4,h] at e;cases e
     ·by_cases hbI:b=I
      ·subst hbI;rw [eI4] at h;cases h
      ·cases e:h2.get? b with
       | none=>exact .inr rfl
       | some o =>
        by_cases hbφ:b∈φ++[s.heap.objs.size]
        ·exact .inl hbφ
        ·obtain ⟨o',e',_⟩:=hkp b o hbI e hbφ hbH
         have:=hs₄.extBut b o' hbH (hk₃ b o' hbI e')
         rw [h] at this;cases this
   ·obtain ⟨o',e',hs'⟩:=hkp b o hb e h1 h2
    have e4:=hs₄.extBut b o' h2 (hk₃ b o' hb e')
    have hbφ':b∉φ':=fun hm=>by
     rcases hfr b hm with h | h
     ·exact h1 h
     ·rw [e] at h;cases h
    obtain ⟨o5,e5,hs5⟩:=t₅.keep b o' e4 hbφ' (fun h=>nomatch h)
    exact ⟨o5,hs₆.extBut b o5 (fun h=>h1 (h ▸ ham)) e5,hs'.trans hs5⟩
   ·have L5:=(L₄.weaken (ρ':=sub ρ fv) fun z v hz=>by
     by_cases hzx:z=x
     ·subst hzx
      obtain ⟨hzf,_⟩:=sub_lookup hz
      have h1:=(K.fv z hzf).1
      have h2:(relabel scope env).names.lookup z=some .local:=lookup_relabel_local K.x
      rw [h2] at h1;cases h1
     ·rw [lookup_cons_ne hzx];exact hz).step G₄ t₅
    refine L5.but (c:=s.heap.objs.size) (fun b o hb e=>hs₆.extBut b o hb e) (fun hm=>(L5.own _ hm).1 ham5) (fun o e=>G₅.notStill ham5 e) (L5.frs.atφ (fun b o hb e=>hs₆.extBut b o hb e) ham5)
  ·have hin':i=n:=by (clear hnI' hnI hcI heI hI' hC' hS' hIφ' L' G' hkp hfr hp L2 hIfr2 hS2 hIφ1 hID hIlt hIs hla hDs hDB hDφ hkk G2 hk2 hD0 hHs hsb2 hns2 G1 t1 hk1 hH hRR helt hI hC hS hIfr hIB hIφ L G W K;lia)
   subst hin'
   refine W.done φ' σ' s' _ _ G' hC' hS' fun h₃ tk hk₃=>?_
   have G₃:St prog w B φ' σ' { s' with heap:=h₃,toks:=tk }:=G'.but (s':={ s' with heap:=h₃,toks:=tk }) hk₃ hIφ' hIB hnI'
   have L₃:Loc A B (compEnvC scope cl H.objs.size env) (sub ρ fv) φ' h₃:=L'.but hk₃ hIfr2 hnI' (L'.frs.at hk₃ (.inr fun o e=>by obtain ⟨oI,heI,hcI,_⟩:=W.obj _ _ _ hS';rw [heI] at e;cases e;exact hcI))
   refine hRR s.heap.objs.size H.objs.size φ' σ' h₃ tk _ _ _ (idx_mono hp hla) hDs (L₃.own _ (.head _)).1 hDB L₃.ns (fun b o hb e h1=>?_) ((List.prefix_append _ _).trans hp) (fun b hb=>?_) G₃ hC' hI'
   ·have hbs:b≠s.heap.objs.size:=fun h=>by rw [h,get?_size] at e;cases e
    have hbH:b≠H.objs.size:=fun h=>by rw [h,hDs] at e;cases e
    obtain ⟨o',e',hs'⟩:=hkp b o hb (hkk b o e) (fun h=>(List.mem_append.mp h).elim h1 fun h=>hbs (List.mem_singleton.mp h)) hbH
    exact ⟨o',hk₃ b o' hb e',hs'⟩
   ·rcases hfr b hb with h | h
    ·rcases List.mem_append.mp h with h | h
     ·exact .inl h
     ·obtain rfl:=List.mem_singleton.mp h;exact .inr (get?_size _)
    ·right
     cases e:s.heap.get? b with
     | none=>rfl
     | some o=>rw [hkk b o e] at h;cases h
 exact codeAny_compStart_list loop (W.self 0 _ _ _ _ hS2 loop)
inductive CompH (prog:Program) (w:World) (B:Shared) (A:Around) (cenv:Addr→Env) (x:Str) (elt:Expr) (l:List (Str×V)) (v:V) (σ':List AObj) (K:Nat→List AObj→Prop):Prop
 | mk:∀ σ₁ n el C,∀ Iv:Nat→List AObj→Prop,WIt prog w B A v σ' σ₁ n el C→C (σ₁++[.list []])→Iv 0 (σ₁++[.list []])→
   (∀ D i σ₂,i < n→C σ₂→Iv i σ₂→WE prog w B A (cenv D) elt ((x,el i) :: l) σ₂ (fun y σ₃=>∃ ys,σ₃[σ₁.length]?=some (.list ys)∧ys.length≤sizeLine∧C (σ₃.set σ₁.length (.list (ys++[y])))∧Iv (i+1) (σ₃.set σ₁.length (.list (ys++[y])))) (fun _ _ _ _=>False))→
   (∀ σ₂,C σ₂→Iv n σ₂→K σ₁.length σ₂)→CompH prog w B A cenv x elt l v σ' K
theorem E_comp {elt iter:Expr} {x:Str} {px:Pos} {scope:Scope} {cl:List (Str×Addr)} {pos:Pos} {fv:List Str} (K:CompOk env scope cl x fv)
  (h:WE prog w B A env iter ρ σ (fun v σ'=>CompH prog w B A (fun D=>compEnvC scope cl D env) x elt (sub ρ fv) v σ' (fun a σ₂=>Q (.ref a) σ₂)) X)
  (hs:∀ v,foldedSetIterable iter env v=pure v:=by intro _;with_unfolding_all rfl) :
  WE prog w B A env (.ListComp elt [⟨.Name x px,iter,[],0⟩] scope pos) ρ σ Q X:=fun φ s G L=>by
 show wpAny _ _ _ _ _ _
 rw [eval_ListComp]
 refine wpAny_comprehension_free (use:=none) rfl hs K.clos K.kind K.names ((h φ s G L).useV (.refl ..) fun v s₁ φ₁ σ' t₁ _ G₁ y hy hq=>?_)
 obtain ⟨σ₁,n,el,C,Iv,hit,hC,hI,helt,hend⟩:=hq
 have L₁:=L.step G t₁
 refine hit φ₁ s₁ v _ _ G₁ hy fun I h₁ Ss hk hI0 hIφ W hS G₂=>?_
 have tk0:Step [] φ₁ s₁.heap φ₁ h₁:=.of_keeps hk
 have L₂:Loc A B env ρ φ₁ h₁:=L₁.step G₁ tk0
 have hIfr:I∉fr env:=fun hm=>by obtain ⟨o,e,_⟩:=L₁.there hm;rw [hI0] at e;cases e
 refine comp_core (RR:=fun acc D=>compPost (model prog w) A (Post prog w B [] φ s X) none (Post prog w B [] φ s (vQ Q)) acc D) (s:={ s₁ with heap:=h₁ }) K W G₂ L₂ hIφ (G₁.baseSize hI0) hIfr hS Iv hC hI helt ?_
 intro a D φ' σ₂ h' tk gs dr os ha hD hDφ hDB hns hkp hpre hfr G' hC' hI'
 obtain ⟨m,hm⟩:=hns
 refine ⟨m,hm,fun h'' hsb=>?_⟩
 have hnD:∀ o,h'.get? D=some o→¬ Still o:=fun o e=>by
  obtain ⟨o',es,ep,e',hd,_⟩:=hm
  rw [e] at e';cases e';exact notStill_dict hd
 have G'':St prog w B φ' σ₂ ⟨h'',gs,dr,tk,os⟩:=G'.sameBut (s':=⟨h'',gs,dr,tk,os⟩) hsb hDφ hDB hnD
 have t':Step [] φ₁ s₁.heap φ' h'':=by
  refine ⟨hpre,fun b hb=>(hfr b hb).imp id fun h=>?_,fun b o e h1 _=>?_⟩
  ·cases e:s₁.heap.get? b with
   | none=>rfl
   | some o=>rw [hk b o e] at h;cases h
  ·obtain ⟨o',e',hs'⟩:=hkp b o (fun h=>by rw [h,hI0] at e;cases e) (hk b o e) h1
   exact ⟨o',hsb.extBut b o' (fun h=>by rw [h] at e;have:=hk _ _ e;rw [hD] at this;cases this) e',hs'⟩
 refine ⟨φ',σ₂,t₁.trans0 t',G'',.ref σ₁.length,?_,hend σ₂ hC' hI'⟩
 rw [Val];exact ⟨a,rfl,ha⟩
theorem X_comp {elt iter:Expr} {x y:Str} {px py:Pos} {scope:Scope} {cl:List (Str×Addr)} {pos spos:Pos} {fv:List Str} {Q:Fl→List (Str×V)→List AObj→Prop} (K:CompOk env scope cl x fv)
  (h:WE prog w B A env iter ρ σ (fun v σ'=>CompH prog w B A (fun D=>compEnvC scope cl D env) x elt (sub ρ fv) v σ' (fun a σ₂=>Q .next ((y,.ref a) :: ρ) σ₂)) X)
  (hy:env.kindOf y=some .local)
  (hsw:swapsWith (.ListComp elt [⟨.Name x px,iter,[],0⟩] scope pos) (some (.Name y py)) spos.line env=pure true:=by rfl)
  (hs:∀ v,foldedSetIterable iter env v=pure v:=by intro _;with_unfolding_all rfl) :
  WX1 prog w B A env (.Assign [.Name y py] (.ListComp elt [⟨.Name x px,iter,[],0⟩] scope pos) spos) ρ σ Q X:=fun φ s G L=>by
 show wpAny _ _ _ _ _ _
 rw [exec_Assign_Name_used _ _ _ _ hsw]
 refine wpAny_bind (wpAny_standAt (wpAny_bind ?_))
 show wpAny _ A (do let _ ← comprehension (.ListComp elt [⟨.Name x px,iter,[],0⟩] scope pos) scope env _ (newList []) false (eval iter env) (some (assign (.Name y py) env))) _ _ s
 refine wpAny_bind (wpAny_mono (wpAny_comprehension_free (use:=some (assign (.Name y py) env)) (Q:=fun _ s'=>Post prog w B (fr env) φ s (fQ B A env Q) .next s') rfl hs K.clos K.kind K.names ?_) (fun _ s' hq=>wpAny_pure (wpAny_pure hq)) fun _ _ e=>e)
 refine h.then G L fun v s₁ φ₁ σ' vx t₁ G₁ L₁ hvx hq=>?_
 obtain ⟨σ₁,n,el,C,Iv,hit,hC,hI,helt,hend⟩:=hq
 refine hit φ₁ s₁ v _ _ G₁ hvx fun I h₁ Ss hk hI0 hIφ W hS G₂=>?_
 have tk0:Step [] φ₁ s₁.heap φ₁ h₁:=.of_keeps hk
 have L₂:Loc A B env ρ φ₁ h₁:=L₁.step G₁ tk0
 have hIfr:I∉fr env:=fun hm=>by obtain ⟨o,e,_⟩:=L₁.there hm;rw [hI0] at e;cases e
 refine comp_core (RR:=fun acc D=>compPost (model prog w) A (Post prog w B (fr env) φ s X) (some (assign (.Name y py) env)) (fun _ s'=>Post prog w B (fr env) φ s (fQ B A env Q) .next s') acc D) (s:={ s₁ with heap:=h₁ }) K W G₂ L₂ hIφ (G₁.baseSize hI0) hIfr hS Iv hC hI helt ?_
 intro a D φ' σ₂ h' tk gs dr os ha hD hDφ hDB hns hkp hpre hfr G' hC' hI'
 have hnD:∀ o,h'.get? D=some o→¬ Still o:=fun o e=>by
  obtain ⟨m,o',es,ep,e',hd,_⟩:=hns
  rw [e] at e';cases e';exact notStill_dict hd
 have t':Step [] φ₁ s₁.heap φ' h':=by
  refine ⟨hpre,fun b hb=>(hfr b hb).imp id fun h=>?_,fun b o e h1 _=>hkp b o (fun h=>by rw [h,hI0] at e;cases e) (hk b o e) h1⟩
  cases e:s₁.heap.get? b with
  | none=>rfl
  | some o=>rw [hk b o e] at h;cases h
 have L':Loc A B env ρ φ' h':=L₁.step G₁ t'
 have hDfr:D∉fr env:=fun hm=>by obtain ⟨o,e,_⟩:=L₁.there hm;have:=hk _ _ e;rw [hD] at this;cases this
 show wpAny _ A (assign (.Name y py) env (.ref a)) _ _ _
 refine wpAny_assign_Name (store_local (s:=⟨h',gs,dr,tk,os⟩) (y:=.ref σ₁.length) G' L' (by rw [Val];exact ⟨a,rfl,ha⟩) hy fun h₅ tk₅ hs₅ G₅ L₅=>?_)
 obtain ⟨m,hm⟩:=hns
 have hLD:D≠env.locals:=fun h=>hDfr (h ▸ .head _)
 refine ⟨m,hm.sameBut hs₅ hLD,fun h'' hsb=>?_⟩
 have hnD5:∀ o,h₅.get? D=some o→¬ Still o:=fun o e=>by
  obtain ⟨o',es,ep,e',hd,_⟩:=hm.sameBut hs₅ hLD
  rw [e] at e';cases e';exact notStill_dict hd
 have G'':St prog w B φ' σ₂ ⟨h'',gs,dr,tk₅,os⟩:=G₅.sameBut (s':=⟨h'',gs,dr,tk₅,os⟩) hsb hDφ hDB hnD5
 have L'':Loc A B env ((y,.ref σ₁.length) :: ρ) φ' h'':=L₅.but (fun b o hb e=>hsb.extBut b o hb e) hDfr hnD5 (by
  obtain ⟨l,hl,hf⟩:=L₅.frs
  obtain ⟨l',hl',hf'⟩:=L₁.frs
  rw [hl] at hl';cases hl'
  refine ⟨l,hl,fun e he=>?_⟩
  obtain ⟨k,L,o,es,n,a1,a2,a3,a4,a5⟩:=hf e he
  obtain ⟨_,L0,o0,_,_,b1,_,_,b4,_⟩:=hf' e he
  rw [a1] at b1;cases b1
  exact ⟨k,L,o,es,n,a1,a2,a3,hsb.extBut L o (fun h=>by rw [h] at b4;have:=hk _ _ b4;rw [hD] at this;cases this) a4,a5⟩)
 have t'':Step (fr env) φ₁ s₁.heap φ' h'':=by
  refine ⟨t'.pre,t'.fresh,fun b o e h1 h2=>?_⟩
  obtain ⟨o',e',hs'⟩:=t'.keep b o e h1 (fun h=>nomatch h)
  exact ⟨o',hsb.extBut b o' (fun h=>by rw [h] at e;have:=hk _ _ e;rw [hD] at this;cases this) (hs₅.extBut b o' (fun h=>h2 (h ▸ .head _)) e'),hs'⟩
 exact ⟨φ',σ₂,Step.transF t₁.nilD t'' L₁,G'',.next,_,rfl,L'',hend σ₂ hC' hI'⟩
end
end Mine
namespace Mine
open PySem PySem.W PySem.Calls PyProof.Rows
section
variable {prog:Program} {w:World} {B:Shared} {φ φ':List Addr} {σ σ':List AObj} {s s':Shared} {env:Env} {ρ:List (Str×V)} {A:Around} {X:XT} {Q:V→List AObj→Prop}
theorem setItem_plain {l:Addr} {items:Array Value} {n:Nat} {k:Int} {t:Tok} {v:Value} {R:Unit→Shared→Prop} {E:Value→Shared→Prop} (ho:s.heap.get? l=some { cls:=.type "list",data:=.seq items n }) (h0:0≤k) (hf:k < 2 ^ 63) (hj:k < items.size)
  (h:∀ h' n',h'.get? l=some { cls:=.type "list",data:=.seq (items.setIfInBounds k.toNat v) n' }→Heap.SameBut l s.heap h'→R () { s with heap:=h' }) :
  wpAny (model prog w) A (setItem (.ref l) (.int k t) v) R E s:=by
 have hT:s.TypeIs (.ref l) "list":=⟨_,ho,rfl⟩
 unfold setItem
 try with_reducible refine wpAny_holding ?_
 first | refine wpAny_bind (wpAny_pure ?_) | skip
 refine wpAny_bind (wpAny_sequenceKey hT (by decide) ?_)
 refine wpAny_bind (wpAny_callSpecial?_slot (name:=Str.ofString "__setitem__") hT slot_list_setitem
  (wpAny_call_entry slot_list_setitem hT entry_list_setitem ?_ (args_list_setitem _ _ _)))
 show wpAny _ _ (Builtin.List.listSubscript? (.int k t) >>= _) _ _ s
 refine wpAny_bind (wpAny_listSubscript_int (fitsIndex_of h0 hf) ?_)
 clear hf
 obtain ⟨j,rfl⟩:=Int.eq_ofNat_of_zero_le h0
 have hj':j < items.size:=by exact qGI hj
 show wpAny _ _ ((seqItemAt l j >>= fun r=>pure (r.map (j,·))) >>= _) _ _ s
 refine wpAny_bind (wpAny_bind (wpAny_seqItemAt ho rfl (wpAny_pure ?_)))
 rw [Array.getElem?_eq_getElem hj']
 show wpAny _ _ (setSeqItemAt l j v >>= _) _ _ s
 have hfin:(s.heap.update l (Obj.mapSeq (·.setIfInBounds j v))).get? l=some { cls:=.type "list",data:=.seq (items.setIfInBounds j v) n }:=by
  rw [Heap.get?_update_self _ ho rfl]
  simp [Obj.mapSeq]
 refine wpAny_bind (wpAny_setSeqItemAt ho rfl ?_)
 exact wpAny_pure ⟨.none,rfl,wpAny_pure (h _ _ hfin (Heap.SameBut.update ..))⟩
noncomputable def WSub (prog:Program) (w:World) (B:Shared) (A:Around) (value slice:Expr) (x y:V) (σ:List AObj) (Q:V→List AObj→Prop) (X:XT):Prop :=
 ∀ φ s v u,St prog w B φ σ s→Val φ s.heap x v→Val φ s.heap y u→W prog w B A (subscriptTail value slice v u) φ s (vQ Q) X
theorem E_sub {value slice:Expr} {pos:Pos} (h:WE prog w B A env value ρ σ (fun x σ₁=>WE prog w B A env slice ρ σ₁ (fun y σ₂=>WSub prog w B A value slice x y σ₂ Q X) X) X):WE prog w B A env (.Subscript value slice pos) ρ σ Q X:=fun φ s G L =>
 Subscript_ ((h φ s G L).useV (.refl ..) fun a s₁ φ₁ σ₁ t₁ _ G₁ x hx h₁=>(h₁ φ₁ s₁ G₁ (L.step G t₁)).useV t₁ fun b s₂ φ₂ σ₂ t₂ t G₂ y hy h₂=>(h₂ φ₂ s₂ a b G₂ (hx.step G₁ t₂) hy).last t)
noncomputable def PlainSlice (slice:Expr):Prop:=∀ o i,subscripted slice false o i=operate [o,i] (getItem o i)
theorem S_list {value slice:Expr} {k:Nat} {xs:List V} {i:Int} (hσ:σ[k]?=some (.list xs)) (h0:0≤i) (hi:i < xs.length) (hf:i < 2 ^ 63) (q:Q (xs.getD i.toNat .none) σ)
  (hs:PlainSlice slice:=by with_unfolding_all exact fun _ _=>rfl):WSub prog w B A value slice (.ref k) (.int i) σ Q X:=fun φ s v u G hv hu=>by
 obtain ⟨a,rfl,ha⟩:=hv.of_ref;obtain ⟨t,rfl⟩:=hu.of_int
 obtain ⟨a',ha',vs,n,ho,hvs⟩:=G.get hσ
 rw [ha] at ha';cases ha'
 have hi':i.toNat < xs.length:=by exact qAX h0 hi
 obtain ⟨y,hy,hyv⟩:=hvs.get (i:=i.toNat) (x:=xs.getD i.toNat .none) (by rw [List.getD_eq_getElem?_getD,List.getElem?_eq_getElem hi'];rfl)
 have hl:s.heap.IsList a vs:=⟨_,ho,rfl,n,rfl⟩
 exact tail_any hl.typeIs slot_list_getitem.lookup (wpAny_getItem_list hl h0 hf (by rw [← Array.getElem?_toList];exact hy) (Post.here G ⟨_,hyv,q⟩)) (hs _ _)
theorem S_tup {value slice:Expr} {xs:List V} {i:Int} (h0:0≤i) (hi:i < xs.length) (hf:i < 2 ^ 63) (q:Q (xs.getD i.toNat .none) σ)
  (hs:PlainSlice slice:=by with_unfolding_all exact fun _ _=>rfl):WSub prog w B A value slice (.tup xs) (.int i) σ Q X:=fun φ s v u G hv hu=>by
 obtain ⟨a,vs,rfl,ht,hvs⟩:=hv.of_tup;obtain ⟨t,rfl⟩:=hu.of_int
 have hi':i.toNat < xs.length:=by exact qAX h0 hi
 obtain ⟨y,hy,hyv⟩:=hvs.get (i:=i.toNat) (x:=xs.getD i.toNat .none) (by rw [List.getD_eq_getElem?_getD,List.getElem?_eq_getElem hi'];rfl)
 have hlen:=hvs.length
 have hsz:vs.size=xs.length:=by simpa using hlen
 refine tail_any ht.typeIs slot_tuple_getitem.lookup (getItem_tuple ht (by exact qGx h0) hf (j:=i.toNat) ?_ (by rw [← Array.getElem?_toList];exact hy) (Post.here G ⟨_,hyv,q⟩)) (hs _ _)
 unfold seqIndex?
 rw [hsz]
 simp only [show ¬ (i < 0) by exact qAg h0,if_false]
 simp;(exact qEM h0 hi)
theorem S_t0 {value slice:Expr} {x:V} {xs:List V} (q:Q x σ) (hs:PlainSlice slice:=by with_unfolding_all exact fun _ _=>rfl):WSub prog w B A value slice (.tup (x :: xs)) (.int 0) σ Q X :=
 S_tup (by decide) (by simp only [List.length_cons];exact qBx) (by decide) q hs
theorem S_t1 {value slice:Expr} {x y:V} {xs:List V} (q:Q y σ) (hs:PlainSlice slice:=by with_unfolding_all exact fun _ _=>rfl):WSub prog w B A value slice (.tup (x :: y :: xs)) (.int 1) σ Q X :=
 S_tup (by decide) (by simp only [List.length_cons];exact qCt) (by decide) q hs
theorem S_str {value slice:Expr} {x:Str} {i:Int} (h0:0≤i) (hi:i < x.cps.size) (hf:i < 2 ^ 63) (q:Q (.str (signAt x i.toNat)) σ)
  (hs:PlainSlice slice:=by with_unfolding_all exact fun _ _=>rfl):WSub prog w B A value slice (.str x) (.int i) σ Q X:=fun φ s v u G hv hu=>by
 obtain ⟨t,rfl⟩:=hv.of_str;obtain ⟨t',rfl⟩:=hu.of_int
 have hi':i.toNat < x.cps.size:=by exact qAX h0 hi
 refine tail_any (typeIs_str s x t) F.slot_str_getitem.lookup (P.getItem_str (c:=x.cps.getD i.toNat 0) (by simp;exact qEt h0 hf) ?_ (Post.tok G ⟨_,.str_ _ _,q⟩)) (hs _ _)
 unfold seqIndex?
 have hl:x.length=x.cps.size:=rfl
 simp only [show ¬ (i < 0) by exact qAg h0,if_false,hl]
 simp [Array.getD_eq_getD_getElem?,hi',h0,hi]
theorem S_dict {value slice:Expr} {k:Nat} {es:List (Key×V)} {e:Option Nat} {key:Key} {x:V} (hσ:σ[k]?=some (.dict es e)) (hx:at? es key=some x) (q:Q x σ)
  (hs:PlainSlice slice:=by with_unfolding_all exact fun _ _=>rfl):WSub prog w B A value slice (.ref k) key.v σ Q X:=fun φ s v u G hv hu=>by
 obtain ⟨a,rfl,ha⟩:=hv.of_ref
 obtain ⟨a',ha',kvs,ep,hd,hvs,_⟩:=G.get hσ
 rw [ha] at ha';cases ha'
 have hkey:(kk prog w).is key u=true:=by
  cases key with
  | s y=>obtain ⟨t,rfl⟩:=hu.of_str;simp [kk,Key.is,Value.isStrOf]
  | i n=>obtain ⟨t,rfl⟩:=hu.of_int;simp [kk,Key.is,Value.isInt]
 rcases hvs.at? key with ⟨y,z,h1,h2,h3⟩ | ⟨h1,_⟩
 ·rw [hx] at h1;cases h1
  have hm:=hd.dictOf.mapOf
  exact tail_any hm.typeIs slot_dict_getitem.lookup (wpAny_getItem_of hkey hm h2 (Post.tok G ⟨_,h3,q⟩)) (hs _ _)
 ·rw [hx] at h1;cases h1
noncomputable def WSet (prog:Program) (w:World) (B:Shared) (A:Around) (x y z:V) (σ:List AObj) (Q:List AObj→Prop) (X:XT):Prop :=
 ∀ φ s v u t,St prog w B φ σ s→Val φ s.heap x v→Val φ s.heap y u→Val φ s.heap z t→W prog w B A (setItem v u t) φ s (bQ fun _ σ'=>Q σ') X
theorem X_setitem {o i value:Expr} {p pos:Pos} {Q:Fl→List (Str×V)→List AObj→Prop}
  (h:WE prog w B A env value ρ σ (fun z σ₁=>WE prog w B A env o ρ σ₁ (fun x σ₂=>WE prog w B A env i ρ σ₂ (fun y σ₃=>WSet prog w B A x y z σ₃ (fun σ₄=>Q .next ρ σ₄) X) X) X) X)
  (hs:swapsWith value (some (.Subscript o i p)) pos.line env=pure false:=by with_unfolding_all rfl):WX1 prog w B A env (.Assign [.Subscript o i p] value pos) ρ σ Q X:=fun φ s G L=>by
 refine wpAny_Assign_Subscript ?_ hs
 refine h.then G L fun vz s₁ φ₁ σ₁ z t₁ G₁ L₁ hz h₁=>?_
 refine wpAny_mono (h₁ φ₁ s₁ G₁ L₁) (fun vx s₂ ⟨φ₂,σ₂,t₂,G₂,x,hx,h₂⟩=>?_) fun e s' ⟨φ',σ',t',G',x⟩=>⟨φ',σ',(t₁.trans0 t').nilD,G',x⟩
 refine wpAny_mono (h₂ φ₂ s₂ G₂ (L₁.step G₁ t₂)) (fun vy s₃ ⟨φ₃,σ₃,t₃,G₃,y,hy,h₃⟩=>?_) fun e s' ⟨φ',σ',t',G',x⟩=>⟨φ',σ',(t₁.trans0 (t₂.trans0 t')).nilD,G',x⟩
 have L₃:=(L₁.step G₁ t₂).step G₂ t₃
 refine wpAny_mono (h₃ φ₃ s₃ vx vy vz G₃ (hx.step G₂ t₃) hy (hz.step G₁ (t₂.trans0 t₃))) (fun _ s₄ ⟨φ₄,σ₄,t₄,G₄,q⟩=>?_) fun e s' ⟨φ',σ',t',G',x⟩=>⟨φ',σ',(t₁.trans0 (t₂.trans0 (t₃.trans0 t'))).nilD,G',x⟩
 exact ⟨φ₄,σ₄,(t₁.trans0 (t₂.trans0 (t₃.trans0 t₄))).nilD,G₄,.next,ρ,rfl,L₃.step G₃ t₄,q⟩
theorem P_list {k:Nat} {xs:List V} {i:Int} {z:V} {Q:List AObj→Prop} (hσ:σ[k]?=some (.list xs)) (h0:0≤i) (hi:i < xs.length) (hf:i < 2 ^ 63) (q:Q (σ.set k (.list (xs.set i.toNat z)))):WSet prog w B A (.ref k) (.int i) z σ Q X:=fun φ s v u t G hv hu hz=>by
 obtain ⟨a,rfl,ha⟩:=hv.of_ref;obtain ⟨tk,rfl⟩:=hu.of_int
 obtain ⟨a',ha',vs,n,ho,hvs⟩:=G.get hσ
 rw [ha] at ha';cases ha'
 have hlen:vs.size=xs.length:=by simpa using hvs.length
 have hn:∀ o,s.heap.get? a=some o→¬ Still o:=fun o e=>G.notStill (List.mem_of_getElem? ha) e
 refine setItem_plain ho h0 hf (by exact qGp hi hlen) fun h' n' ho' hsb=>⟨φ,_,Step.update hsb (List.mem_of_getElem? ha),G.setList (s':={ s with heap:=h' }) (ys:=xs.set i.toNat z) ha hsb ho' ?_ hn,q⟩
 rw [Array.toList_setIfInBounds]
 clear q hσ hlen ho ho'
 generalize vs.toList=l at hvs
 generalize i.toNat=j
 clear h0 hi hf hu
 induction xs generalizing l j with
 | nil=>rw [Vals] at hvs;subst hvs;simpa using Vals.nil
 | cons x xs ih =>
  rw [Vals] at hvs
  obtain ⟨v,r,rfl,h1,h2⟩:=hvs
  cases j with
  | zero=>simpa using Vals.cons hz h2
  | succ j=>simpa using Vals.cons h1 (ih r h2 j)
theorem P_dict {k:Nat} {es:List (Key×V)} {key:Key} {z:V} {Q:List AObj→Prop} (hσ:σ[k]?=some (.dict es none)) (hl:es.length≤sizeLine) (q:Q (σ.set k (.dict (put es key z) none))):WSet prog w B A (.ref k) key.v z σ Q X:=fun φ s v u t G hv hu hz=>by
 obtain ⟨a,rfl,ha⟩:=hv.of_ref
 obtain ⟨a',ha',kvs,ep,hd,hvs,_⟩:=G.get hσ
 rw [ha] at ha';cases ha'
 have hkey:(kk prog w).is key u=true:=by
  cases key with
  | s y=>obtain ⟨t,rfl⟩:=hu.of_str;simp [kk,Key.is,Value.isStrOf]
  | i n=>obtain ⟨t,rfl⟩:=hu.of_int;simp [kk,Key.is,Value.isInt]
 have hn:∀ o,s.heap.get? a=some o→¬ Still o:=fun o e=>G.notStill (List.mem_of_getElem? ha) e
 refine wpAny_setItem_pairs hkey hd.dictOf (fun h' hd' hsb=>?_) (by rw [hvs.length];exact hl)
 obtain ⟨ep',hd''⟩:=hd'.dictAt
 refine ⟨φ,_,Step.update hsb (List.mem_of_getElem? ha),G.update (s':={ s with heap:=h',toks:=s.toks+1 }) (ob:=.dict (put es key z) none) ha hsb ⟨_,ep',hd'',?_,fun n e=>by cases e⟩,q⟩
 exact (hvs.put key hz).mono (List.prefix_refl _) fun a o e hst=>hsb.extBut a o (fun h=>hn o (h ▸ e) hst) e
theorem Vals.one {h:Heap} {x:V} {vs:List Value} (hv:Vals φ h [x] vs):∃ v,vs=[v]∧Val φ h x v:=by
 rw [Vals] at hv;obtain ⟨v,r,rfl,h1,hv⟩:=hv
 rw [Vals] at hv;subst hv
 exact ⟨v,rfl,h1⟩
theorem Vals.two {h:Heap} {x y:V} {vs:List Value} (hv:Vals φ h [x,y] vs):∃ v u,vs=[v,u]∧Val φ h x v∧Val φ h y u:=by
 rw [Vals] at hv;obtain ⟨v,r,rfl,h1,hv⟩:=hv
 obtain ⟨u,rfl,h2⟩:=hv.one
 exact ⟨v,u,rfl,h1,h2⟩
theorem Vals.three {h:Heap} {x y z:V} {vs:List Value} (hv:Vals φ h [x,y,z] vs):∃ v u t,vs=[v,u,t]∧Val φ h x v∧Val φ h y u∧Val φ h z t:=by
 rw [Vals] at hv;obtain ⟨v,r,rfl,h1,hv⟩:=hv
 obtain ⟨u,t,rfl,h2,h3⟩:=hv.two
 exact ⟨v,u,t,rfl,h1,h2,h3⟩
theorem C_len_list {k:Nat} {xs:List V} (hσ:σ[k]?=some (.list xs)) (hf:(xs.length:Int) < 2 ^ 63) (q:Q (.int xs.length) σ):WC prog w B A (.builtin "len") [.ref k] σ Q X:=fun φ s vs G FR hv=>by
 obtain ⟨v,rfl,hx⟩:=hv.one
 obtain ⟨a,rfl,ha⟩:=hx.of_ref
 obtain ⟨a',ha',vs,n,ho,hvs⟩:=G.get hσ
 rw [ha] at ha';cases ha'
 have hlen:vs.size=xs.length:=by simpa using hvs.length
 exact call_len_list ⟨_,ho,rfl,n,rfl⟩ (by rw [hlen];exact hf) (Post.tok G ⟨_,.int_ _ _,by rw [hlen];exact q⟩)
theorem C_len_dict {k:Nat} {es:List (Key×V)} {e:Option Nat} (hσ:σ[k]?=some (.dict es e)) (hf:(es.length:Int) < 2 ^ 63) (q:Q (.int es.length) σ):WC prog w B A (.builtin "len") [.ref k] σ Q X:=fun φ s vs G FR hv=>by
 obtain ⟨v,rfl,hx⟩:=hv.one
 obtain ⟨a,rfl,ha⟩:=hx.of_ref
 obtain ⟨a',ha',kvs,ep,hd,hvs,_⟩:=G.get hσ
 rw [ha] at ha';cases ha'
 exact call_len_dict (G.notSys (List.mem_of_getElem? ha)) hd.dictOf (by rw [hvs.length];exact hf) (Post.tok G ⟨_,.int_ _ _,by rw [hvs.length];exact q⟩)
theorem C_len_str {x:Str} (hf:(x.length:Int) < 2 ^ 63) (q:Q (.int x.length) σ):WC prog w B A (.builtin "len") [.str x] σ Q X:=fun φ s vs G FR hv=>by
 obtain ⟨v,rfl,hx⟩:=hv.one
 obtain ⟨t,rfl⟩:=hx.of_str
 exact PyProof.Rows.len_str (by exact qGh hf) (Post.tok G ⟨_,.int_ _ _,q⟩)
theorem C_len_tup {xs:List V} (hf:(xs.length:Int) < 2 ^ 63) (q:Q (.int xs.length) σ):WC prog w B A (.builtin "len") [.tup xs] σ Q X:=fun φ s vs G FR hv=>by
 obtain ⟨v,rfl,hx⟩:=hv.one
 obtain ⟨a,vs,rfl,ht,hvs⟩:=hx.of_tup
 have hlen:vs.size=xs.length:=by simpa using hvs.length
 exact len_tuple ht (by rw [hlen];exact hf) (Post.tok G ⟨_,.int_ _ _,by rw [hlen];exact q⟩)
end
end Mine
namespace Mine
open PySem PySem.W PySem.Calls PyProof.Rows
structure AOk (n:Nat) (A:Around):Prop where
 handled:A.handled=none
 depth:A.depth+n≤900
 units:A.units+10 * n≤9000
theorem AOk.deeper {n:Nat} {A:Around} {env:Env} (h:AOk (n+1) A):AOk n (A.deeper env) :=
 ⟨h.handled,by have:=h.depth;show A.depth+1+n≤900;exact qDm this,by have:=h.units;show A.units+3+10 * n≤9000;exact qEN this⟩
theorem AOk.le {n m:Nat} {A:Around} (h:AOk n A) (hm:m≤n):AOk m A:=⟨h.handled,by have:=h.depth;exact qD0 hm this,by have:=h.units;exact qDI hm this⟩
theorem AOk.room {n:Nat} {A:Around} (h:AOk n A):A.depth < recursionLimit:=by have:=h.depth;show A.depth < 1000;(exact qGo this)
structure Gl (B:Shared) (mg mb:Str→Option Value):Prop where
 g:B.heap.Ns mainGlobals mg
 b:B.heap.Ns builtinsNs mb
 lim:B.heap.NoLimit
section
variable (prog:Program) (w:World) (B:Shared) (mg mb:Str→Option Value)
noncomputable def CF (x:Str) (n:Nat) (P:List V→List AObj→(V→List AObj→Prop)→XT→Prop):Prop :=
 B.heap.Ns mainGlobals mg∧∃ v,mg x=some v∧Keep B v∧∀ A xs σ Q X,AOk n A→P xs σ Q X→WC prog w B A v xs σ Q X
noncomputable def Bi (x:Str) (v:Value):Prop:=B.heap.Ns mainGlobals mg∧B.heap.Ns builtinsNs mb∧mg x=none∧mb x=some v
end
section
variable {prog:Program} {w:World} {B:Shared} {mg mb:Str→Option Value} {φ φ':List Addr} {σ σ':List AObj} {s s':Shared} {env:Env} {ρ:List (Str×V)} {A:Around} {X:XT} {Q:V→List AObj→Prop}
theorem E_cf {x:Str} {px pos:Pos} {es:List Expr} {n:Nat} {P:List V→List AObj→(V→List AObj→Prop)→XT→Prop} (C:CF prog w B mg x n P) (hA:AOk n A)
  (h:WEs prog w B A env es ρ σ (fun xs σ₁=>P xs σ₁ Q X) X)
  (hx:env.kindOf x=some .globalImplicit:=by kernel_rfl!)
  (hp:∀ pos,(backTo pos (starEach es env)).any (·.1)=false:=by intro _;with_unfolding_all rfl)
  (hd:(x == ("__debug__":Str))=false:=by decide +kernel) :
  WE prog w B A env (.Call (.Name x px) es [] pos) ρ σ Q X:=by
 obtain ⟨hg,v,hv,hk,hP⟩:=C
 refine E_call (f:=v) (E_global hg hv (Val.raw_ v) hx ⟨rfl,?_⟩ hd) hk hp
 exact fun p φ s G L=>(h p φ s G L).mono fun a φ' σ' s' ⟨xs,hxs,q⟩=>⟨xs,hxs,hP A xs σ' Q X hA q⟩
theorem E_bi {x:Str} {px pos:Pos} {es:List Expr} {v:Value} (C:Bi B mg mb x v) (hk:Keep B v)
  (h:WEs prog w B A env es ρ σ (fun xs σ₁=>WC prog w B A v xs σ₁ Q X) X)
  (hx:env.kindOf x=some .globalImplicit:=by kernel_rfl!)
  (hp:∀ pos,(backTo pos (starEach es env)).any (·.1)=false:=by intro _;with_unfolding_all rfl)
  (hd:(x == ("__debug__":Str))=false:=by decide +kernel) :
  WE prog w B A env (.Call (.Name x px) es [] pos) ρ σ Q X :=
 E_call (f:=v) (E_builtin C.1 C.2.2.1 C.2.1 C.2.2.2 hx ⟨rfl,h⟩ hd) hk hp
theorem X_ret {e:Expr} {pos:Pos} {rest:List Stmt} {Q:Fl→List (Str×V)→List AObj→Prop} (h:WE prog w B A env e ρ σ (fun x σ₁=>Q (.ret x) ρ σ₁) X):WX prog w B A env (.Return (some e) pos :: rest) ρ σ Q X :=
 X_cons (X_return h)
theorem X_let {x:Str} {e:Expr} {px pos:Pos} {rest:List Stmt} {Q:Fl→List (Str×V)→List AObj→Prop} (h:WE prog w B A env e ρ σ (fun y σ₁=>WX prog w B A env rest ((x,y) :: ρ) σ₁ Q X) X)
  (hx:env.kindOf x=some .local:=by kernel_rfl!)
  (hs:swapsWith e (some (.Name x px)) pos.line env=pure false:=by with_unfolding_all rfl):WX prog w B A env (.Assign [.Name x px] e pos :: rest) ρ σ Q X :=
 X_cons (X_assign h (.inl hx) hs)
theorem X_letc {x:Str} {e:Expr} {px pos:Pos} {rest:List Stmt} {Q:Fl→List (Str×V)→List AObj→Prop} (h:WE prog w B A env e ρ σ (fun y σ₁=>WX prog w B A env rest ((x,y) :: ρ) σ₁ Q X) X)
  (hx:env.kindOf x=some .cell:=by kernel_rfl!) (hc:(env.cells.lookup x).isSome=true:=by kernel_rfl!)
  (hs:swapsWith e (some (.Name x px)) pos.line env=pure false:=by with_unfolding_all rfl):WX prog w B A env (.Assign [.Name x px] e pos :: rest) ρ σ Q X :=
 X_cons (X_assign h (.inr ⟨hx,hc⟩) hs)
theorem X_do {e:Expr} {pos:Pos} {rest:List Stmt} {Q:Fl→List (Str×V)→List AObj→Prop} (h:WE prog w B A env e ρ σ (fun _ σ₁=>WX prog w B A env rest ρ σ₁ Q X) X)
  (hi:interactive env=false:=by with_unfolding_all rfl) (hs:swapsWith e none pos.line env=pure false:=by with_unfolding_all rfl):WX prog w B A env (.Expr e pos :: rest) ρ σ Q X:=X_cons (X_expr h hi hs)
theorem X_ifs {test:Expr} {body orelse:List Stmt} {pos:Pos} {rest:List Stmt} {Q:Fl→List (Str×V)→List AObj→Prop}
  (h:WT prog w B A env test ρ σ (fun b σ₁=>if b then WX prog w B A env body ρ σ₁ (seqQ prog w B A env rest Q X) X else WX prog w B A env orelse ρ σ₁ (seqQ prog w B A env rest Q X) X) X):WX prog w B A env (.If test body orelse pos :: rest) ρ σ Q X:=X_cons (X_if h)
theorem X_set {o i value:Expr} {p pos:Pos} {rest:List Stmt} {Q:Fl→List (Str×V)→List AObj→Prop}
  (h:WE prog w B A env value ρ σ (fun z σ₁=>WE prog w B A env o ρ σ₁ (fun x σ₂=>WE prog w B A env i ρ σ₂ (fun y σ₃=>WSet prog w B A x y z σ₃ (fun σ₄=>WX prog w B A env rest ρ σ₄ Q X) X) X) X) X)
  (hs:swapsWith value (some (.Subscript o i p)) pos.line env=pure false:=by with_unfolding_all rfl):WX prog w B A env (.Assign [.Subscript o i p] value pos :: rest) ρ σ Q X:=X_cons (X_setitem h hs)
theorem X_loop {x:Str} {px pos:Pos} {iter:Expr} {body rest:List Stmt} {Q:Fl→List (Str×V)→List AObj→Prop}
  (h:WE prog w B A env iter ρ σ (fun v σ'=>LoopH prog w B A env x body ρ (seqQ prog w B A env rest Q X) X v σ') X)
  (hx:env.kindOf x=some .local:=by kernel_rfl!)
  (hs:∀ v,foldedSetIterable iter env v=pure v:=by intro _;with_unfolding_all rfl) (hl:∀ it v,letOwnedTupleGo (.Name x px) it v=pure ():=by intro _ _;with_unfolding_all rfl) :
  WX prog w B A env (.For (.Name x px) iter body [] pos :: rest) ρ σ Q X:=X_cons (X_for h (.inl hx) hs hl)
theorem sq_ret {rest:List Stmt} {Q:Fl→List (Str×V)→List AObj→Prop} {x:V} (q:Q (.ret x) ρ σ):seqQ prog w B A env rest Q X (.ret x) ρ σ:=q
theorem sq_next {rest:List Stmt} {Q:Fl→List (Str×V)→List AObj→Prop} (q:WX prog w B A env rest ρ σ Q X):seqQ prog w B A env rest Q X .next ρ σ:=q
noncomputable def retQ (σ:List AObj) (Q:V→List AObj→Prop):Fl→List (Str×V)→List AObj→Prop:=fun fl _ σ'=>Clean σ Q (retV fl) σ'
theorem R_all {σ₀:List AObj} {x:V} (q:Q x σ):retQ σ₀ Q (.ret x) ρ σ:=.all q
theorem R_next {σ₀:List AObj} (q:Q .none σ):retQ σ₀ Q .next ρ σ:=.all q
theorem R_none {σ₀ junk:List AObj} {x:V} (hx:x.lt σ₀.length) (q:Q x σ₀):retQ σ₀ Q (.ret x) ρ (σ₀++junk):=.none hx q
theorem R_one {σ₀ j1 j2:List AObj} {ob:AObj} {k:Nat} (hk:k=σ₀.length+j1.length) (ho:ob.lt σ₀.length) (q:Q (.ref σ₀.length) (σ₀++[ob])):retQ σ₀ Q (.ret (.ref k)) ρ (σ₀++j1++ob :: j2):=.one hk ho q
theorem O_pow60 (q:Q (.int (10 ^ 60)) σ):W2 prog w B A (binaryOp .Pow) (.int 10) (.int 60) σ Q X:=O_pow q (by decide) (by decide) (by decide)
theorem look_here {x y:Str} {v:V} {ρ:List (Str×V)} (h:x=y):((y,v) :: ρ).lookup x=some v:=by subst h;simp
theorem look_there {x y:Str} {u v:V} {ρ:List (Str×V)} (h:(x == y)=false) (hr:ρ.lookup x=some v):((y,u) :: ρ).lookup x=some v:=by rw [List.lookup_cons,h];exact hr
noncomputable def LookQ (ρ:List (Str×V)) (x:Str) (P:V→Prop) (R:Prop):Prop:=(∃ v,ρ.lookup x=some v∧P v)∨R
theorem Lh {x:Str} {v:V} {ρ:List (Str×V)} {P:V→Prop} {R:Prop} (p:P v):LookQ ((x,v) :: ρ) x P R:=.inl ⟨v,look_here rfl,p⟩
theorem Lt {x y:Str} {u:V} {ρ:List (Str×V)} {P:V→Prop} {R:Prop} (p:LookQ ρ x P R) (h:(x == y)=false:=by decide +kernel):LookQ ((y,u) :: ρ) x P R:=p.imp (fun ⟨v,h1,h2⟩=>⟨v,look_there h h1,h2⟩) id
theorem LQ_nil {x:Str} {P:V→Prop} {R:Prop} (r:R):LookQ [] x P R:=.inr r
noncomputable def NG (prog:Program) (w:World) (B:Shared) (A:Around) (env:Env) (x:Str) (ρ:List (Str×V)) (σ:List AObj) (Q:V→List AObj→Prop) (X:XT):Prop:=∀ pos,WE prog w B A env (.Name x pos) ρ σ Q X
theorem E_nm {x:Str} {pos:Pos} (h:LookQ ρ x (fun v=>Q v σ) (NG prog w B A env x ρ σ Q X)) (hd:(x == ("__debug__":Str))=false:=by decide +kernel) (hn:(x == ("__classdict__":Str))=false:=by decide +kernel) :
  WE prog w B A env (.Name x pos) ρ σ Q X:=h.elim (fun ⟨v,h1,h2⟩=>E_name h1 h2 hd hn) fun h=>h pos
theorem N_bi {x:Str} {v:Value} (C:Bi B mg mb x v) (q:Q (.raw v) σ)
  (hx:env.kindOf x=some .globalImplicit:=by kernel_rfl!)
  (hd:(x == ("__debug__":Str))=false:=by decide +kernel) :
  NG prog w B A env x ρ σ Q X:=fun pos=>E_builtin C.1 C.2.2.1 C.2.1 C.2.2.2 hx q hd
noncomputable def GC (B:Shared) (mg:Str→Option Value) (x:Str) (y:V):Prop:=B.heap.Ns mainGlobals mg∧∃ v,mg x=some v∧Val [] B.heap y v
theorem N_gc {x:Str} {y:V} (C:GC B mg x y) (q:Q y σ)
  (hx:env.kindOf x=some .globalImplicit:=by kernel_rfl!)
  (hd:(x == ("__debug__":Str))=false:=by decide +kernel) :
  NG prog w B A env x ρ σ Q X:=fun pos=>let ⟨h1,_,h2,h3⟩:=C;E_global h1 h2 h3 hx q hd
theorem iteD {c:Prop} [Decidable c] {P P':Prop} (h1:c→P) (h2:¬ c→P'):if (decide c)=true then P else P':=by
 by_cases hc:c
 ·rw [if_pos (decide_eq_true hc)];exact h1 hc
 ·rw [if_neg (by simpa using hc)];exact h2 hc
theorem iteDn {c:Prop} [Decidable c] {P P':Prop} (h1:¬ c→P) (h2:c→P'):if (!decide c)=true then P else P':=by
 by_cases hc:c
 ·rw [if_neg (by simpa using hc)];exact h2 hc
 ·rw [if_pos (by simpa using hc)];exact h1 hc
theorem iteB {b:Bool} {P P':Prop} (h1:b=true→P) (h2:b=false→P'):if b=true then P else P':=by
 cases b
 ·exact h2 rfl
 ·exact h1 rfl
theorem iteT {P P':Prop} (h1:P):if true=true then P else P':=h1
theorem iteF {P P':Prop} (h1:P'):if false=true then P else P':=h1
noncomputable def Isi (Tx T:String) (b:Bool):Prop:=typeOf (.type T)=pure (.type "type")∧isSubtype (.type Tx) (.type T)=pure b∧(Value.type Tx == Value.type T)=(Tx == T)∧(b=false→(Tx == T)=false)
theorem Isi.ne {Tx T:String} (h:Isi Tx T false):(Value.type Tx == Value.type T)=false:=h.2.2.1.trans (h.2.2.2 rfl)
theorem isi_yes {x:V} {Tx T:String} (h:Isi Tx T true) (ht:∀ φ s v,St prog w B φ σ s→Val φ s.heap x v→s.TypeIs v Tx) (q:Q (.bool true) σ):WC prog w B A (.builtin "isinstance") [x,.raw (.type T)] σ Q X:=fun φ s vs G FR hv=>by
 obtain ⟨v,u,rfl,hx,hu⟩:=hv.two
 obtain rfl:=hu.of_raw
 exact call_isinstance_yes (ht φ s v G hx) h.1 h.2.1 (Post.here G ⟨_,.bool_ _,q⟩)
theorem isi_int {i:Int} {T:String} {b:Bool} (h:Isi "int" T b) (q:Q (.bool b) σ):WC prog w B A (.builtin "isinstance") [.int i,.raw (.type T)] σ Q X:=by
 cases b
 ·intro φ s vs G FR hv
  obtain ⟨v,u,rfl,hx,hu⟩:=hv.two
  obtain rfl:=hu.of_raw
  obtain ⟨t,rfl⟩:=hx.of_int
  exact call_isinstance (isinstance_false_int h.ne h.1 h.2.1) (Post.tok G ⟨_,.bool_ _,q⟩)
 ·exact isi_yes h (fun φ s v G hx=>by obtain ⟨t,rfl⟩:=hx.of_int;exact rfl) q
theorem isi_str {i:Str} {T:String} {b:Bool} (h:Isi "str" T b) (q:Q (.bool b) σ):WC prog w B A (.builtin "isinstance") [.str i,.raw (.type T)] σ Q X:=by
 cases b
 ·intro φ s vs G FR hv
  obtain ⟨v,u,rfl,hx,hu⟩:=hv.two
  obtain rfl:=hu.of_raw
  obtain ⟨t,rfl⟩:=hx.of_str
  exact call_isinstance (isinstance_false_str h.ne h.1 h.2.1) (Post.tok G ⟨_,.bool_ _,q⟩)
 ·exact isi_yes h (fun φ s v G hx=>by obtain ⟨t,rfl⟩:=hx.of_str;exact typeIs_str s i t) q
theorem isi_bool {i:Bool} {T:String} {b:Bool} (h:Isi "bool" T b) (q:Q (.bool b) σ):WC prog w B A (.builtin "isinstance") [.bool i,.raw (.type T)] σ Q X:=by
 cases b
 ·intro φ s vs G FR hv
  obtain ⟨v,u,rfl,hx,hu⟩:=hv.two
  obtain rfl:=hu.of_raw
  obtain rfl:=hx.of_bool
  exact call_isinstance (isinstance_false_bool h.ne h.1 h.2.1) (Post.tok G ⟨_,.bool_ _,q⟩)
 ·exact isi_yes h (fun φ s v G hx=>by obtain rfl:=hx.of_bool;exact rfl) q
theorem isi_none {T:String} (h:Isi "NoneType" T false) (q:Q (.bool false) σ):WC prog w B A (.builtin "isinstance") [.none,.raw (.type T)] σ Q X:=fun φ s vs G FR hv=>by
  obtain ⟨v,u,rfl,hx,hu⟩:=hv.two
  obtain rfl:=hu.of_raw
  obtain rfl:=hx.of_none
  exact call_isinstance (isinstance_false_none h.ne h.1 h.2.1) (Post.tok G ⟨_,.bool_ _,q⟩)
theorem isi_tup {xs:List V} {T:String} {b:Bool} (h:Isi "tuple" T b) (q:Q (.bool b) σ):WC prog w B A (.builtin "isinstance") [.tup xs,.raw (.type T)] σ Q X:=by
 cases b
 ·intro φ s vs G FR hv
  obtain ⟨v,u,rfl,hx,hu⟩:=hv.two
  obtain rfl:=hu.of_raw
  obtain ⟨a,vs,rfl,⟨o,ho,hc,_⟩,_⟩:=hx.of_tup
  exact call_isinstance (isinstance_false_tuple h.ne h.1 h.2.1) ⟨⟨o,ho,hc⟩,Post.tok G ⟨_,.bool_ _,q⟩⟩
 ·exact isi_yes h (fun φ s v G hx=>by obtain ⟨a,vs,rfl,ht,_⟩:=hx.of_tup;exact ht.typeIs) q
theorem isi_list {k:Nat} {xs:List V} {T:String} {b:Bool} (hσ:σ[k]?=some (.list xs)) (h:Isi "list" T b) (q:Q (.bool b) σ):WC prog w B A (.builtin "isinstance") [.ref k,.raw (.type T)] σ Q X:=by
 cases b
 ·intro φ s vs G FR hv
  obtain ⟨v,u,rfl,hx,hu⟩:=hv.two
  obtain rfl:=hu.of_raw
  obtain ⟨a,rfl,ha⟩:=hx.of_ref
  obtain ⟨a',ha',vs,n,ho,hvs⟩:=G.get hσ
  rw [ha] at ha';cases ha'
  exact call_isinstance (isinstance_false_list h.ne h.1 h.2.1) ⟨⟨_,ho,rfl⟩,Post.tok G ⟨_,.bool_ _,q⟩⟩
 ·refine isi_yes h (fun φ s v G hx=>?_) q
  obtain ⟨a,rfl,ha⟩:=hx.of_ref
  obtain ⟨a',ha',vs,n,ho,hvs⟩:=G.get hσ
  rw [ha] at ha';cases ha'
  exact ⟨_,ho,rfl⟩
theorem isi_dict {k:Nat} {es:List (Key×V)} {e:Option Nat} {T:String} {b:Bool} (hσ:σ[k]?=some (.dict es e)) (h:Isi "dict" T b) (q:Q (.bool b) σ):WC prog w B A (.builtin "isinstance") [.ref k,.raw (.type T)] σ Q X:=by
 cases b
 ·intro φ s vs G FR hv
  obtain ⟨v,u,rfl,hx,hu⟩:=hv.two
  obtain rfl:=hu.of_raw
  obtain ⟨a,rfl,ha⟩:=hx.of_ref
  obtain ⟨a',ha',kvs,ep,hd,hvs,_⟩:=G.get hσ
  rw [ha] at ha';cases ha'
  have ⟨o,ho,hc⟩:=hd.dictOf.mapOf.typeIs
  exact call_isinstance (isinstance_false_dict h.ne h.1 h.2.1) ⟨⟨o,ho,hc⟩,Post.tok G ⟨_,.bool_ _,q⟩⟩
 ·refine isi_yes h (fun φ s v G hx=>?_) q
  obtain ⟨a,rfl,ha⟩:=hx.of_ref
  obtain ⟨a',ha',kvs,ep,hd,hvs,_⟩:=G.get hσ
  rw [ha] at ha';cases ha'
  exact hd.dictOf.mapOf.typeIs
end
end Mine
namespace Mine
open PySem PySem.W PySem.Calls PyProof.Rows
theorem sub_of {Tx:String} {mro:List Value} {base:Value} {b:Bool} (h:fastBuiltinMro Tx=some mro) (hc:mro.contains base=b):isSubtype (.type Tx) base=pure b:=by
 rw [isSubtype_type,h];show pure _=_;rw [hc]
theorem mro_int:fastBuiltinMro "int" = some [.type "int",.type "object"]:=by kernel_rfl
theorem mro_bool:fastBuiltinMro "bool" = some [.type "bool",.type "int",.type "object"]:=by kernel_rfl
theorem mro_str:fastBuiltinMro "str" = some [.type "str",.type "object"]:=by kernel_rfl
theorem mro_tuple:fastBuiltinMro "tuple" = some [.type "tuple",.type "object"]:=by kernel_rfl
theorem mro_list:fastBuiltinMro "list" = some [.type "list",.type "object"]:=by kernel_rfl
theorem mro_dict:fastBuiltinMro "dict" = some [.type "dict",.type "object"]:=by kernel_rfl
theorem mro_NoneType:fastBuiltinMro "NoneType" = some [.type "NoneType",.type "object"]:=by kernel_rfl
theorem ty_int:typeOf (.type "int")=pure (.type "type"):=by kernel_rfl
theorem ty_bool:typeOf (.type "bool")=pure (.type "type"):=by kernel_rfl
theorem ty_str:typeOf (.type "str")=pure (.type "type"):=by kernel_rfl
theorem ty_tuple:typeOf (.type "tuple")=pure (.type "type"):=by kernel_rfl
theorem ty_dict:typeOf (.type "dict")=pure (.type "type"):=by kernel_rfl
theorem isi_int_int:Isi "int" "int" true:=⟨ty_int,sub_of mro_int (by decide +kernel),by decide +kernel,by decide +kernel⟩
theorem isi_int_bool:Isi "int" "bool" false:=⟨ty_bool,sub_of mro_int (by decide +kernel),by decide +kernel,by decide +kernel⟩
theorem isi_int_str:Isi "int" "str" false:=⟨ty_str,sub_of mro_int (by decide +kernel),by decide +kernel,by decide +kernel⟩
theorem isi_int_tuple:Isi "int" "tuple" false:=⟨ty_tuple,sub_of mro_int (by decide +kernel),by decide +kernel,by decide +kernel⟩
theorem isi_bool_int:Isi "bool" "int" true:=⟨ty_int,sub_of mro_bool (by decide +kernel),by decide +kernel,by decide +kernel⟩
theorem isi_bool_bool:Isi "bool" "bool" true:=⟨ty_bool,sub_of mro_bool (by decide +kernel),by decide +kernel,by decide +kernel⟩
theorem isi_str_int:Isi "str" "int" false:=⟨ty_int,sub_of mro_str (by decide +kernel),by decide +kernel,by decide +kernel⟩
theorem isi_str_str:Isi "str" "str" true:=⟨ty_str,sub_of mro_str (by decide +kernel),by decide +kernel,by decide +kernel⟩
theorem isi_str_dict:Isi "str" "dict" false:=⟨ty_dict,sub_of mro_str (by decide +kernel),by decide +kernel,by decide +kernel⟩
theorem isi_tuple_tuple:Isi "tuple" "tuple" true:=⟨ty_tuple,sub_of mro_tuple (by decide +kernel),by decide +kernel,by decide +kernel⟩
theorem isi_tuple_dict:Isi "tuple" "dict" false:=⟨ty_dict,sub_of mro_tuple (by decide +kernel),by decide +kernel,by decide +kernel⟩
theorem isi_list_tuple:Isi "list" "tuple" false:=⟨ty_tuple,sub_of mro_list (by decide +kernel),by decide +kernel,by decide +kernel⟩
theorem isi_list_dict:Isi "list" "dict" false:=⟨ty_dict,sub_of mro_list (by decide +kernel),by decide +kernel,by decide +kernel⟩
theorem isi_dict_dict:Isi "dict" "dict" true:=⟨ty_dict,sub_of mro_dict (by decide +kernel),by decide +kernel,by decide +kernel⟩
theorem isi_NoneType_int:Isi "NoneType" "int" false:=⟨ty_int,sub_of mro_NoneType (by decide +kernel),by decide +kernel,by decide +kernel⟩
theorem isi_NoneType_dict:Isi "NoneType" "dict" false:=⟨ty_dict,sub_of mro_NoneType (by decide +kernel),by decide +kernel,by decide +kernel⟩
structure Blt (B:Shared) (mg mb:Str→Option Value):Prop where
 len_:Bi B mg mb "len" (.builtin "len")
 isinstance_:Bi B mg mb "isinstance" (.builtin "isinstance")
 max_:Bi B mg mb "max" (.builtin "max")
 min_:Bi B mg mb "min" (.builtin "min")
 sum_:Bi B mg mb "sum" (.builtin "sum")
 sorted_:Bi B mg mb "sorted" (.builtin "sorted")
 int_:Bi B mg mb "int" (.type "int")
 bool_:Bi B mg mb "bool" (.type "bool")
 str_:Bi B mg mb "str" (.type "str")
 tuple_:Bi B mg mb "tuple" (.type "tuple")
 list_:Bi B mg mb "list" (.type "list")
 dict_:Bi B mg mb "dict" (.type "dict")
 set_:Bi B mg mb "set" (.type "set")
 range_:Bi B mg mb "range" (.type "range")
 enumerate_:Bi B mg mb "enumerate" (.type "enumerate")
noncomputable def HasF (B:Shared) (mg:Str→Option Value) (d:DefRec):Prop :=
 ∃ a o pm code doc,mg d.name=some (.ref a)∧B.heap.get? a=some o∧o.data=.func (docDef d.name d.params d.body d.scope pm code doc)∧B.heap.CodeRec code d.name
theorem len_1 {vals:List Value} (h:vals.length=1):∃ a,vals=[a]:=List.length_eq_one_iff.mp h
theorem len_2 {vals:List Value} (h:vals.length=2):∃ a b,vals=[a,b]:=by
 cases vals with
 | nil=>cases h
 | cons a r=>obtain ⟨b,rfl⟩:=len_1 (Nat.succ.inj h);exact ⟨a,b,rfl⟩
theorem len_3 {vals:List Value} (h:vals.length=3):∃ a b c,vals=[a,b,c]:=by
 cases vals with
 | nil=>cases h
 | cons a r=>obtain ⟨b,c,rfl⟩:=len_2 (Nat.succ.inj h);exact ⟨a,b,c,rfl⟩
structure Good (d:DefRec) (names:List Str):Prop where
 bind:∀ (pm code doc:Value) (vals:List Value),vals.length=names.length→bindArgs (docDef d.name d.params d.body d.scope pm code doc) ⟨vals,[]⟩=pure (names.zip vals)
 kinds:∀ n∈names,d.scope.names.lookup n=some .local∨d.scope.names.lookup n=some .cell
 nodup:names.Nodup
 cnodup:(d.scope.names.map (·.1)).Nodup
 co:d.scope.isCoroutine=false
 gen:d.scope.isGenerator=false
 kind:d.scope.kind=.function
section
variable {prog:Program} {w:World} {B:Shared} {mg mb:Str→Option Value} {φ φ':List Addr} {σ σ':List AObj} {s s':Shared} {env:Env} {ρ:List (Str×V)} {A:Around} {X:XT} {Q:V→List AObj→Prop}
theorem HasF.fn {d:DefRec} {names:List Str} (H:HasF B mg d) (lim:B.heap.NoLimit) (g:Good d names):∃ a pm code doc,mg d.name=some (.ref a)∧Fn B a names (docDef d.name d.params d.body d.scope pm code doc) d.body:=by
 obtain ⟨a,o,pm,code,doc,h1,h2,h3,h4⟩:=H
 exact ⟨a,pm,code,doc,h1,⟨o,h2,h3⟩,lim,h4,rfl,rfl,rfl,rfl,g.bind pm code doc,g.kinds,g.nodup,g.cnodup,g.co,g.gen,g.kind⟩
theorem CF_of {d:DefRec} {names:List Str} {n:Nat} {P:List V→List AObj→(V→List AObj→Prop)→XT→Prop} (gl:Gl B mg mb) (H:HasF B mg d) (g:Good d names)
  (h:∀ A pm code doc L a xs σ Q X,AOk n A→P xs σ Q X→xs.length=names.length∧WX prog w B A (callEnvC (docDef d.name d.params d.body d.scope pm code doc) L a) d.body (names.zip xs) σ (retQ σ Q) (fun _ _ _ _=>False)) :
  CF prog w B mg d.name (n+1) P:=by
 obtain ⟨a,pm,code,doc,h1,F⟩:=H.fn gl.lim g
 refine ⟨gl.g,.ref a,h1,Keep.fn F,fun A xs σ Q X hA hP=>WC.clean (C_fn F ?_ hA.room fun L=>?_)⟩
 ·exact (h A pm code doc 0 a xs σ Q X (hA.le (Nat.le_succ n)) hP).1
 ·exact (h _ pm code doc L a xs σ Q X hA.deeper hP).2
structure Scr (B:Shared) (scr:Addr) (nums:List Int):Prop where
 list:∃ vs:Array Value,B.heap.IsList scr vs∧IntsAre vs.toList nums
 len:nums.length≤63
theorem C_len_scr {scr:Addr} {nums:List Int} (S:Scr B scr nums) (q:Q (.int nums.length) σ):WC prog w B A (.builtin "len") [.raw (.ref scr)] σ Q X:=fun φ s vs G FR hv=>by
 obtain ⟨v,rfl,hx⟩:=hv.one
 obtain rfl:=hx.of_raw
 obtain ⟨vs,⟨o,ho,hc,n,hd⟩,hI⟩:=S.list
 have hl:vs.size=nums.length:=by simpa using hI.length
 have:=S.len
 exact call_len_list ⟨o,G.base _ _ ho,hc,n,hd⟩ (by (clear hd hc ho hI hv hx FR G q S;lia)) (Post.tok G ⟨_,.int_ _ _,by rw [hl];exact q⟩)
theorem S_scr {value slice:Expr} {scr:Addr} {nums:List Int} {i:Int} (S:Scr B scr nums) (h0:0≤i) (hi:i < nums.length) (q:Q (.int (nums.getD i.toNat 0)) σ)
  (hs:PlainSlice slice:=by with_unfolding_all exact fun _ _=>rfl):WSub prog w B A value slice (.raw (.ref scr)) (.int i) σ Q X:=fun φ s v u G hv hu=>by
 obtain rfl:=hv.of_raw;obtain ⟨t,rfl⟩:=hu.of_int
 obtain ⟨vs,⟨o,ho,hc,n,hd⟩,hI⟩:=S.list
 have hl:s.heap.IsList scr vs:=⟨o,G.base _ _ ho,hc,n,hd⟩
 have hi':i.toNat < nums.length:=by (clear hl hd hc ho hI hu hv G hs q S;lia)
 have:=S.len
 have hsz:vs.size=nums.length:=by simpa using hI.length
 have hv':vs.toList[i.toNat]?=some (vs.toList[i.toNat]'(by simp;omega)):=List.getElem?_eq_getElem _
 obtain ⟨t',e⟩:=hI.int_at i.toNat _ hv'
 refine tail_any hl.typeIs slot_list_getitem.lookup (wpAny_getItem_list hl h0 (by (clear e hv' hsz hi' hl hd hc ho hI hu hv G hs q h0 S;lia)) (by rw [← Array.getElem?_toList];exact hv') ?_) (hs _ _)
 rw [e]
 exact Post.here G ⟨_,.int_ _ _,q⟩
end
end Mine
namespace Mine
open PySem PySem.W PySem.Calls PyProof.Rows
noncomputable def Sub (l ρ:List (Str×V)):Prop:=∀ x v,l.lookup x=some v→ρ.lookup x=some v
theorem Sub.refl (l:List (Str×V)):Sub l l:=fun _ _ h=>h
theorem Sub.nil {ρ:List (Str×V)}:Sub [] ρ:=fun _ _ h=>by cases h
theorem Sub.c {l ρ:List (Str×V)} {x:Str} {v:V} (h:LookQ ρ x (fun u=>u=v∧Sub l ρ) False):Sub ((x,v) :: l) ρ:=by
 rcases h with ⟨u,h1,rfl,h2⟩ | h
 ·intro y z hy
  by_cases e:y=x
  ·subst e;rw [List.lookup_cons_self] at hy;cases hy;exact h1
  ·rw [lookup_cons_ne e] at hy;exact h2 y z hy
 ·exact h.elim
section
variable {prog:Program} {w:World} {B:Shared} {mg mb:Str→Option Value} {φ φ':List Addr} {σ σ':List AObj} {s s':Shared} {env:Env} {ρ l:List (Str×V)} {A:Around} {X:XT} {Q:V→List AObj→Prop}
theorem Loc.sub {h:Heap} (L:Loc A B env ρ φ h) (hs:Sub l ρ):Loc A B env l φ h :=
 ⟨L.kind,L.glob,L.blt,L.ns,L.own,L.cells,L.apart,fun x v hx=>L.val x v (hs x v hx),L.frs,L.top⟩
theorem X_weak {ss:List Stmt} {Q:Fl→List (Str×V)→List AObj→Prop} (hs:Sub l ρ) (h:WX prog w B A env ss l σ Q X):WX prog w B A env ss ρ σ Q X:=fun φ s G L=>h φ s G (L.sub hs)
noncomputable def joinQ {ι:Type} (C:ι→Prop) (l:ι→List (Str×V)) (f:ι→List AObj) (Q:Fl→List (Str×V)→List AObj→Prop):Fl→List (Str×V)→List AObj→Prop
 | .next,ρ',σ'=>∃ i,C i∧σ'=f i∧Sub (l i) ρ'
 | fl,ρ',σ'=>Q fl ρ' σ'
theorem J_next {ι:Type} {C:ι→Prop} {l:ι→List (Str×V)} {f:ι→List AObj} {Q:Fl→List (Str×V)→List AObj→Prop} (i:ι) (hC:C i) (hσ:σ=f i) (hs:Sub (l i) ρ):joinQ C l f Q .next ρ σ:=⟨i,hC,hσ,hs⟩
theorem X_ifj {ι:Type} (C:ι→Prop) (l:ι→List (Str×V)) (f:ι→List AObj) {test:Expr} {body orelse:List Stmt} {pos:Pos} {rest:List Stmt} {Q:Fl→List (Str×V)→List AObj→Prop}
  (h:WT prog w B A env test ρ σ (fun b σ₁=>if b then WX prog w B A env body ρ σ₁ (joinQ C l f Q) X else WX prog w B A env orelse ρ σ₁ (joinQ C l f Q) X) X)
  (k:∀ i,C i→WX prog w B A env rest (l i) (f i) Q X):WX prog w B A env (.If test body orelse pos :: rest) ρ σ Q X:=by
 have mono:∀ (ss:List Stmt) (σ₁:List AObj),WX prog w B A env ss ρ σ₁ (joinQ C l f Q) X→WX prog w B A env ss ρ σ₁ (seqQ prog w B A env rest Q X) X:=fun ss σ₁ hw φ s G L =>
  wpAny_mono (hw φ s G L) (fun v s₁ ⟨φ₁,σ₂,t₁,G₁,fl,ρ',hf,L₁,q⟩=>by
   refine ⟨φ₁,σ₂,t₁,G₁,fl,ρ',hf,L₁,?_⟩
   cases fl with
   | next=>obtain ⟨i,hC,rfl,hs⟩:=q;exact X_weak hs (k i hC)
   | brk=>exact q
   | cont=>exact q
   | ret x=>exact q) fun _ _ x=>x
 refine X_cons (X_if fun φ s G L=>(h φ s G L).mono fun b φ' σ' s' hb=>?_)
 cases b
 ·exact mono _ _ hb
 ·exact mono _ _ hb
theorem E_as {e:Expr} (x:V) (h:WE prog w B A env e ρ σ (fun y σ'=>y=x∧σ'=σ) X) (q:Q x σ):WE prog w B A env e ρ σ Q X:=h.mono fun y σ' ⟨h1,h2⟩=>by subst h1 h2;exact q
theorem T_as {e:Expr} {Q:Bool→List AObj→Prop} (b:Bool) (h:WT prog w B A env e ρ σ (fun y σ'=>y=b∧σ'=σ) X) (q:Q b σ):WT prog w B A env e ρ σ Q X:=fun φ s G L=>(h φ s G L).mono fun y φ' σ' s' ⟨h1,h2⟩=>by subst h1 h2;exact q
theorem C_len_t1 {x:V} (q:Q (.int 1) σ):WC prog w B A (.builtin "len") [.tup [x]] σ Q X:=C_len_tup (by simp only [List.length_cons,List.length_nil];decide) q
theorem C_len_t2 {x y:V} (q:Q (.int 2) σ):WC prog w B A (.builtin "len") [.tup [x,y]] σ Q X:=C_len_tup (by simp only [List.length_cons,List.length_nil];decide) q
theorem C_len_t3 {x y z:V} (q:Q (.int 3) σ):WC prog w B A (.builtin "len") [.tup [x,y,z]] σ Q X:=C_len_tup (by simp only [List.length_cons,List.length_nil];decide) q
theorem iteYes {b:Bool} {P P':Prop} (h:b=true) (p:P):if b=true then P else P':=by rw [if_pos h];exact p
theorem iY {b:Bool} {P P':Prop} (p:P) (h:b=true:=by decide):if b=true then P else P':=iteYes h p
theorem iteNo {b:Bool} {P P':Prop} (h:b=false) (p:P'):if b=true then P else P':=by rw [if_neg (by simp [h])];exact p
theorem iN {b:Bool} {P P':Prop} (p:P') (h:b=false:=by decide):if b=true then P else P':=iteNo h p
end
end Mine
namespace Mine
open PySem PySem.W PySem.Calls PyProof.Rows
section
variable {prog:Program} {w:World} {B:Shared} {mg mb:Str→Option Value} {φ φ':List Addr} {σ σ':List AObj} {s s':Shared} {env:Env} {ρ l:List (Str×V)} {A:Around} {X:XT} {Q:V→List AObj→Prop}
noncomputable def GM (prog:Program) (w:World) (B:Shared) (A:Around) (x:V) (name:Str) (σ:List AObj) (id:String):Prop :=
 ∀ φ s v (pl:Sem Bool) (R:Value×List Value→Shared→Prop) (E:Value→Shared→Prop),St prog w B φ σ s→Val φ s.heap x v→R (.builtin id,[v]) s→wpAny (model prog w) A (getMethod v name pl) R E s
theorem GM_str {x:Str} {name:Str} {id:String} (slot:Slot "str" name id) (hty:typeOf (.builtin id)=pure (.type "method_descriptor")):GM prog w B A (.str x) name σ id:=fun φ s v pl R E G hv h=>by
 obtain ⟨t,rfl⟩:=hv.of_str
 exact getMethod_builtin (typeIs_str _ _ _) F.plainAttrs_str slot hty (fun a e=>nomatch e) h
theorem GM_list {k:Nat} {xs:List V} {name:Str} {id:String} (hσ:σ[k]?=some (.list xs)) (slot:Slot "list" name id) (hty:typeOf (.builtin id)=pure (.type "method_descriptor")):GM prog w B A (.ref k) name σ id:=fun φ s v pl R E G hv h=>by
 obtain ⟨a,rfl,ha⟩:=hv.of_ref
 obtain ⟨a',ha',vs,n,ho,hvs⟩:=G.get hσ
 rw [ha] at ha';cases ha'
 exact getMethod_builtin ⟨_,ho,rfl⟩ F.plainAttrs_list slot hty (fun a e=>by cases e;exact ⟨_,ho,rfl⟩) h
theorem GM_dict {k:Nat} {es:List (Key×V)} {ep:Option Nat} {name:Str} {id:String} (hσ:σ[k]?=some (.dict es ep)) (slot:Slot "dict" name id) (hty:typeOf (.builtin id)=pure (.type "method_descriptor")):GM prog w B A (.ref k) name σ id:=fun φ s v pl R E G hv h=>by
 obtain ⟨a,rfl,ha⟩:=hv.of_ref
 obtain ⟨a',ha',kvs,ep,hd,hvs,_⟩:=G.get hσ
 rw [ha] at ha';cases ha'
 exact getMethod_builtin hd.dictOf.mapOf.typeIs F.plainAttrs_dict slot hty hd.dictOf.mapOf.noDict h
theorem E_mcall {o:Expr} {name:Str} {id:String} {apos pos:Pos} {es:List Expr} {pl:Sem Bool}
  (h:WE prog w B A env o ρ σ (fun x σ₁=>GM prog w B A x name σ₁ id∧WEs prog w B A env es ρ σ₁ (fun xs σ₂=>WC prog w B A (.builtin id) (x :: xs) σ₂ Q X) X) X)
  (he:eval (.Call (.Attribute o name apos) es [] pos) env=(do
   let ov ← eval o env
   standAt apos.atName
   let (f,first) ← holding [ov] (getMethod ov name pl)
   callWith pos f first (backTo pos (starEach es env)) []):=by with_unfolding_all rfl)
  (hp:∀ pos,(backTo pos (starEach es env)).any (·.1)=false:=by intro _;with_unfolding_all rfl) :
  WE prog w B A env (.Call (.Attribute o name apos) es [] pos) ρ σ Q X:=fun φ s G L=>by
 refine MethodCall_ ((h φ s G L).useV (.refl ..) fun v s₁ φ₁ σ₁ t₁ _ G₁ x hx ⟨gm,h₁⟩=>?_) he
 refine gm φ₁ s₁ v pl _ _ G₁ hx ?_
 refine callWith_builtin (by rw [hp pos]) ?_
 have main:=(h₁ pos φ₁ s₁ G₁ (L.step G t₁)).use t₁ (R:=fun vs s₂=>wpAny (model prog w) A (call (.builtin id) ([v]++vs)) (Post prog w B [] φ s (vQ Q)) (Post prog w B [] φ s X) s₂) fun vs s₂ φ₂ σ₂ t₂ t G₂ ⟨xs,hxs,h₂⟩=>(h₂ φ₂ s₂ (v :: vs) G₂ (L.frs.step t) (.cons (hx.step G₁ t₂) hxs)).last t
 exact evalArgs_any (hp pos) main
theorem vals_strs:∀ {texts:List Str} {vs:List Value} {h:Heap},Vals φ h (texts.map V.str) vs→∃ l:List (Str×Tok),vs=strValues l∧l.map (·.1)=texts
 | [],vs,h,e=>by rw [List.map_nil,Vals] at e;subst e;exact ⟨[],rfl,rfl⟩
 | x :: r,vs,h,e=>by
  rw [List.map_cons,Vals] at e
  obtain ⟨v,r',rfl,h1,h2⟩:=e
  obtain ⟨t,rfl⟩:=h1.of_str
  obtain ⟨l,rfl,rfl⟩:=vals_strs h2
  exact ⟨(x,t) :: l,rfl,rfl⟩
theorem C_join {sep:Str} {k:Nat} {texts:List Str} (hσ:σ[k]?=some (.list (texts.map V.str))) (hok:JoinOk sep texts=true) (q:Q (.str (Txt.join sep texts)) σ):WC prog w B A (.builtin "str.join") [.str sep,.ref k] σ Q X:=fun φ s vs G FR hv=>by
 obtain ⟨v,u,rfl,h1,h2⟩:=hv.two
 obtain ⟨t,rfl⟩:=h1.of_str
 obtain ⟨a,rfl,ha⟩:=h2.of_ref
 obtain ⟨a',ha',vs,n,ho,hvs⟩:=G.get hσ
 rw [ha] at ha';cases ha'
 obtain ⟨l,hl,ht⟩:=vals_strs hvs
 refine SC.join (D:=a) (l:=l) ⟨_,ho,rfl,n,?_⟩ ht hok fun t' k=>Post.tok G ⟨_,.str_ _ _,q⟩
 rw [← hl]
theorem join_fold:∀ (l:List Nat) (acc:Array Nat),(l.map fun c=>(⟨#[c]⟩:Str)).foldl (fun acc p=>acc++(#[]:Array Nat)++p.cps) acc=acc++l.toArray
 | [],acc=>by simp
 | c :: r,acc=>by
  rw [List.map_cons,List.foldl_cons,join_fold r]
  simp
theorem join_empty (l:List Nat):Txt.join ⟨#[]⟩ (l.map fun c=>⟨#[c]⟩)=⟨l.toArray⟩:=by
 unfold Txt.join Builtin.Str.glued
 cases l with
 | nil=>rfl
 | cons c r =>
  have:=join_fold r #[c]
  simp only [List.map_cons,List.drop_succ_cons,List.drop_zero,List.headD_cons]
  rw [this]
  simp
theorem joinOk_small {sep:Str} {texts:List Str} (h:∀ y∈texts,y.length≤1000) (hn:texts.length≤1000) (hs:sep.length≤1000):JoinOk sep texts=true:=by
 unfold JoinOk
 rw [StrLaws.joinFits h (by have:texts.length * sep.length≤1000 * 1000:=Nat.mul_le_mul hn hs;(clear hs h;lia))]
 rfl
theorem C_append {k:Nat} {xs:List V} {x:V} (hσ:σ[k]?=some (.list xs)) (hl:xs.length≤sizeLine) (q:Q .none (σ.set k (.list (xs++[x])))):WC prog w B A (.builtin "list.append") [.ref k,x] σ Q X:=fun φ s vs G FR hv=>by
 obtain ⟨v,u,rfl,h1,h2⟩:=hv.two
 obtain ⟨a,rfl,ha⟩:=h1.of_ref
 exact list_append G ha hσ h2 hl fun h' hs G'=>⟨φ,_,Step.update hs (List.mem_of_getElem? ha),G',.none,.none_,q⟩
theorem key_is {key:Key} {h:Heap} {u:Value} (hu:Val φ h key.v u):(kk prog w).is key u=true:=by
 cases key with
 | s y=>obtain ⟨t,rfl⟩:=hu.of_str;simp [kk,Key.is,Value.isStrOf]
 | i n=>obtain ⟨t,rfl⟩:=hu.of_int;simp [kk,Key.is,Value.isInt]
theorem C_get {k:Nat} {es:List (Key×V)} {e:Option Nat} {key:Key} {d:V} (hσ:σ[k]?=some (.dict es e)) (q:Q ((at? es key).getD d) σ):WC prog w B A (.builtin "dict.get") [.ref k,key.v,d] σ Q X:=fun φ s vs G FR hv=>by
 obtain ⟨v,u,t,rfl,h1,h2,h3⟩:=hv.three
 obtain ⟨a,rfl,ha⟩:=h1.of_ref
 obtain ⟨a',ha',kvs,ep,hd,hvs,_⟩:=G.get hσ
 rw [ha] at ha';cases ha'
 have hkey:(kk prog w).is key u=true:=key_is h2
 refine call_meetsIn F.slot_dict_get hd.dictOf.mapOf.typeIs F.entry_dict_get (F.args_dict_get_3 _ _ _) (meets_dict_get_default (kk prog w) a hkey (G.notSys (List.mem_of_getElem? ha)) t) ⟨_,hd.dictOf.mapOf,?_⟩
 rcases hvs.at? key with ⟨y,z,e1,e2,e3⟩ | ⟨e1,e2⟩
 ·rw [e1] at q;exact Post.tok G ⟨_,by rw [e2];exact e3,q⟩
 ·rw [e1] at q;exact Post.tok G ⟨_,by rw [e2];exact h3,q⟩
theorem C_get_s {k:Nat} {es:List (Key×V)} {e:Option Nat} {x:Str} {d:V} (hσ:σ[k]?=some (.dict es e)) (q:Q ((at? es (.s x)).getD d) σ):WC prog w B A (.builtin "dict.get") [.ref k,.str x,d] σ Q X:=C_get (key:=.s x) hσ q
theorem C_range1 {n:Int} (q:Q (.rng 0 n 1) σ):WC prog w B A (.type "range") [.int n] σ Q X:=fun φ s vs G FR hv=>by
 obtain ⟨v,rfl,h1⟩:=hv.one
 obtain ⟨t,rfl⟩:=h1.of_int
 have hk:∀ (ob:Obj) (b:Addr) (o:Obj),s.heap.get? b=some o→(s.heap.push ob).get? b=some o:=fun ob b o e=>Heap.get?_push_of_some _ e
 exact call_range_1 ⟨φ,σ,.of_keeps (hk _),(G.keeps (s':={ s with heap:=_,toks:=_ }) (hk _)),.rng 0 n 1,by rw [Val];exact ⟨_,_,_,_,rfl,Heap.get?_push_size _ rfl⟩,q⟩
theorem C_range2 {a b:Int} (q:Q (.rng a b 1) σ):WC prog w B A (.type "range") [.int a,.int b] σ Q X:=fun φ s vs G FR hv=>by
 obtain ⟨v,u,rfl,h1,h2⟩:=hv.two
 obtain ⟨t,rfl⟩:=h1.of_int
 obtain ⟨t',rfl⟩:=h2.of_int
 have hk:∀ (ob:Obj) (b:Addr) (o:Obj),s.heap.get? b=some o→(s.heap.push ob).get? b=some o:=fun ob b o e=>Heap.get?_push_of_some _ e
 exact call_range_2 ⟨φ,σ,.of_keeps (hk _),(G.keeps (s':={ s with heap:=_,toks:=_ }) (hk _)),.rng a b 1,by rw [Val];exact ⟨_,_,_,_,rfl,Heap.get?_push_size _ rfl⟩,q⟩
theorem St.newDict {h':Heap} {tk:Nat} {kvs:List (Key×Value)} {es:List (Key×V)} (G:St prog w B φ σ s) (hk:∀ b o,s.heap.get? b=some o→h'.get? b=some o) (hd:h'.DictOf (kk prog w) s.heap.objs.size kvs) (he:Ents φ s.heap es kvs) :
  Step [] φ s.heap (φ++[s.heap.objs.size]) h'∧St prog w B (φ++[s.heap.objs.size]) (σ++[.dict es none]) { s with heap:=h',toks:=tk }∧Val (φ++[s.heap.objs.size]) h' (.ref σ.length) (.ref s.heap.objs.size):=by
 obtain ⟨ep,hd'⟩:=hd.dictAt
 refine ⟨Step.alloc (s':={ s with heap:=h' }) (get?_size _) hk,G.alloc (s':={ s with heap:=h',toks:=tk }) (ob:=.dict es none) (get?_size _) hk ⟨kvs,ep,hd',he.mono (List.prefix_append _ _) (fun a o e _=>hk a o e),fun n e=>by cases e⟩ G.fresh G.sizeNe,?_⟩
 rw [Val,← G.len]
 exact ⟨_,rfl,by simp⟩
theorem E_dict0 {pos:Pos} (q:Q (.ref σ.length) (σ++[.dict [] none])):WE prog w B A env (.Dict [] [] pos) ρ σ Q X:=fun φ s G L=>by
 refine wpAny_Dict_empty ?_
 have hk:∀ (b:Addr) (o:Obj),s.heap.get? b=some o→(s.heap.push { cls:=.type "dict",data:=.dict #[] }).get? b=some o:=fun b o e=>Heap.get?_push_of_some _ e
 obtain ⟨t,G',hv⟩:=G.newDict (tk:=s.toks) (kvs:=[]) hk (Heap.DictOf.new ..) .nil
 exact ⟨_,_,t,G',_,hv,q⟩
theorem E_dict1 {ke ve:Expr} {pos:Pos} (h:WE prog w B A env ke ρ (σ++[.dict [] none]) (fun x σ₁=>WE prog w B A env ve ρ σ₁ (fun y σ₂=>∃ key:Key,x=key.v∧σ₂[σ.length]?=some (.dict [] none)∧Q (.ref σ.length) (σ₂.set σ.length (.dict [(key,y)] none))) X) X) :
  WE prog w B A env (.Dict [some ke] [ve] pos) ρ σ Q X:=fun φ s G L=>by
 refine wpAny_Dict_walk (knd:=kk prog w) (by rfl) rfl (by simp) (Nat.le_of_ble_eq_true rfl) ?_
 have hk:∀ (b:Addr) (o:Obj),s.heap.get? b=some o→(s.heap.push { cls:=.type "dict",data:=.dict #[] }).get? b=some o:=fun b o e=>Heap.get?_push_of_some _ e
 obtain ⟨t,G',hv⟩:=G.newDict (tk:=s.toks) (kvs:=[]) hk (Heap.DictOf.new ..) .nil
 refine pairTrees_cons_walk ((h _ _ G' (L.step G t)).useV t fun a s₁ φ₁ σ₁ t₁ tt₁ G₁ x hx h₁=>(h₁ φ₁ s₁ G₁ (L.step G tt₁)).useV tt₁ fun b s₂ φ₂ σ₂ t₂ tt₂ G₂ y hy ⟨key,hkey,hσ,q⟩=>pairTrees_nil_walk ?_)
 subst hkey
 have hk2:(kk prog w).is key a=true:=key_is hx
 have hpre:φ₂[σ.length]?=some s.heap.objs.size:=by
  have:(φ++[s.heap.objs.size])[σ.length]?=some s.heap.objs.size:=by rw [← G.len];simp
  exact idx_mono (t₁.trans0 t₂).pre this
 obtain ⟨a',ha',kvs,ep,hd,hvs,_⟩:=G₂.get hσ
 rw [hpre] at ha';cases ha'
 have hkv:kvs=[]:=by cases hvs;rfl
 subst hkv
 refine ⟨[(key,b)],⟨hk2,rfl,trivial⟩,hd.dictOf,fun h' hd' hsb=>?_⟩
 obtain ⟨ep',hd''⟩:=hd'.dictAt
 have hn:∀ o,s₂.heap.get? s.heap.objs.size=some o→¬ Still o:=fun o e=>G₂.notStill (List.mem_of_getElem? hpre) e
 have hy':Val φ₂ h' y b:=hy.sameBut hsb hn
 refine ⟨φ₂,_,tt₂.trans0 (Step.update hsb (List.mem_of_getElem? hpre)),G₂.update (s':={ s₂ with heap:=h',toks:=_ }) (ob:=.dict [(key,y)] none) hpre hsb ⟨_,ep',hd'',.cons hy' .nil,fun n e=>by cases e⟩,.ref σ.length,?_,q⟩
 rw [Val]
 exact ⟨_,rfl,hpre⟩
theorem inS_one (x:Str) (c:Nat):inS x ⟨#[c]⟩=decide (c∈x.cps.toList):=StrLaws.found_one x c
theorem Sub.both {l ρ:List (Str×V)} {x:Str} {v:V} (h:Sub l ρ):Sub ((x,v) :: l) ((x,v) :: ρ):=fun y z hy=>by
 by_cases e:y=x
 ·subst e;rw [List.lookup_cons_self] at hy ⊢;exact hy
 ·rw [lookup_cons_ne e] at hy ⊢;exact h y z hy
noncomputable def turnJ {ι:Type} (D:ι→Prop) (l:ι→List (Str×V)) (f:ι→List AObj) (C:List AObj→Prop) (Q:Fl→List (Str×V)→List AObj→Prop):Fl→List (Str×V)→List AObj→Prop
 | .next,ρ',σ'=>∃ g,D g∧σ'=f g∧C σ'∧Sub (l g) ρ'
 | .cont,ρ',σ'=>∃ g,D g∧σ'=f g∧C σ'∧Sub (l g) ρ'
 | .brk,ρ',σ'=>Q .next ρ' σ'
 | .ret x,ρ',σ'=>Q (.ret x) ρ' σ'
theorem TJ_next {ι:Type} {D:ι→Prop} {l:ι→List (Str×V)} {f:ι→List AObj} {C:List AObj→Prop} {Q:Fl→List (Str×V)→List AObj→Prop} (g:ι) (hD:D g) (hσ:σ=f g) (hC:C σ) (hs:Sub (l g) ρ):turnJ D l f C Q .next ρ σ:=⟨g,hD,hσ,hC,hs⟩
theorem TJ_ret {ι:Type} {D:ι→Prop} {l:ι→List (Str×V)} {f:ι→List AObj} {C:List AObj→Prop} {Q:Fl→List (Str×V)→List AObj→Prop} {x:V} (q:Q (.ret x) ρ σ):turnJ D l f C Q (.ret x) ρ σ:=q
inductive ForG (prog:Program) (w:World) (B:Shared) (A:Around) (env:Env) (x:Str) (body rest:List Stmt) (ρ:List (Str×V)) (Q:Fl→List (Str×V)→List AObj→Prop) (X:XT) (v:V) (σ':List AObj):Prop
 | intro:∀ (ι:Type) (D:Nat→ι→Prop) (l:Nat→ι→List (Str×V)) (f:Nat→ι→List AObj) (σ₁:List AObj) (n:Nat) (el:Nat→V) (C:List AObj→Prop) (X':XT),(XB A B env X' X)→(WIt prog w B A v σ' σ₁ n el C)→(∃ g,D 0 g∧σ₁=f 0 g∧C σ₁∧Sub (l 0 g) ρ)→(∀ i g,i < n→D i g→C (f i g)→WX prog w B A env body ((x,el i) :: l i g) (f i g) (turnJ (D (i+1)) (l (i+1)) (f (i+1)) C (seqQ prog w B A env rest Q X)) X')→(∀ g,D n g→C (f n g)→WX prog w B A env rest (l n g) (f n g) Q X)→ForG prog w B A env x body rest ρ Q X v σ'
theorem ForG.mk {x:Str} {body rest:List Stmt} {Q:Fl→List (Str×V)→List AObj→Prop} {v:V} {ι:Type} (D:Nat→ι→Prop) (l:Nat→ι→List (Str×V)) (f:Nat→ι→List AObj) {σ₁:List AObj} {n:Nat} {el:Nat→V} {C:List AObj→Prop}
  (hit:WIt prog w B A v σ' σ₁ n el C) (g:ι) (h1:D 0 g) (h2:σ₁=f 0 g) (h3:C σ₁) (h4:Sub (l 0 g) ρ)
  (hb:∀ i g,i < n→D i g→C (f i g)→WX prog w B A env body ((x,el i) :: l i g) (f i g) (turnJ (D (i+1)) (l (i+1)) (f (i+1)) C (seqQ prog w B A env rest Q X)) (fun _ _ _ _=>False))
  (he:∀ g,D n g→C (f n g)→WX prog w B A env rest (l n g) (f n g) Q X):ForG prog w B A env x body rest ρ Q X v σ':=⟨ι,D,l,f,σ₁,n,el,C,_,.no,hit,⟨g,h1,h2,h3,h4⟩,hb,he⟩
theorem X_fors {x:Str} {px pos:Pos} {iter:Expr} {body rest:List Stmt} {Q:Fl→List (Str×V)→List AObj→Prop} (h:WE prog w B A env iter ρ σ (fun v σ'=>ForG prog w B A env x body rest ρ Q X v σ') X)
  (hx:env.kindOf x=some .local:=by kernel_rfl!)
  (hs:∀ v,foldedSetIterable iter env v=pure v:=by intro _;with_unfolding_all rfl) (hl:∀ it v,letOwnedTupleGo (.Name x px) it v=pure ():=by intro _ _;with_unfolding_all rfl) :
  WX prog w B A env (.For (.Name x px) iter body [] pos :: rest) ρ σ Q X:=by
 refine X_loop (h.mono fun v σ' hy=>?_) hx hs hl
 obtain ⟨ι,D,l,f,σ₁,n,el,C,X',hX,hit,⟨g,h1,h2,h3,h4⟩,hb,he⟩:=hy
 refine ⟨σ₁,n,el,C,X',hX,fun i ρ' σ'=>∃ g,D i g∧σ'=f i g∧Sub (l i g) ρ',hit,h3,⟨g,h1,h2,h4⟩,?_,?_⟩
 ·rintro i ρ₂ σ₂ hi hC ⟨g,hD,rfl,hs⟩
  refine X_weak hs.both fun φ s G L=>wpAny_mono (hb i g hi hD hC φ s G L) (fun v s₁ hx=>?_) fun _ _ x=>x
  obtain ⟨φ₁,σ₃,t₁,G₁,fl,ρ',hf,L₁,q⟩:=hx
  refine ⟨φ₁,σ₃,t₁,G₁,fl,ρ',hf,L₁,?_⟩
  cases fl with
  | next=>obtain ⟨g,q1,q2,q3,q4⟩:=q;exact ⟨q3,g,q1,q2,q4⟩
  | cont=>obtain ⟨g,q1,q2,q3,q4⟩:=q;exact ⟨q3,g,q1,q2,q4⟩
  | brk=>exact q
  | ret y=>exact q
 ·rintro ρ₂ σ₂ hC ⟨g,hD,rfl,hs⟩
  exact X_weak hs (he g hD hC)
inductive TyV (σ:List AObj):V→String→Prop
 | int (i:Int):TyV σ (.int i) "int"
 | bool (b:Bool):TyV σ (.bool b) "bool"
 | str (x:Str):TyV σ (.str x) "str"
 | none:TyV σ .none "NoneType"
 | tup (xs:List V):TyV σ (.tup xs) "tuple"
 | list {k:Nat} {xs:List V}:σ[k]?=some (.list xs)→TyV σ (.ref k) "list"
 | dict {k:Nat} {es:List (Key×V)} {e:Option Nat}:σ[k]?=some (.dict es e)→TyV σ (.ref k) "dict"
theorem isi_any {x:V} {Tx T:String} {b:Bool} (h:TyV σ x Tx) (hi:Isi Tx T b) (q:Q (.bool b) σ) (hn:(Tx == "NoneType")=true→b=false):WC prog w B A (.builtin "isinstance") [x,.raw (.type T)] σ Q X:=by
 cases h with
 | int=>exact isi_int hi q
 | bool=>exact isi_bool hi q
 | str=>exact isi_str hi q
 | none=>obtain rfl:=hn (by decide);exact isi_none hi q
 | tup=>exact isi_tup hi q
 | list h=>exact isi_list h hi q
 | dict h=>exact isi_dict h hi q
noncomputable def NonStr (σ:List AObj) (x:V):Prop:=∃ Tx,TyV σ x Tx∧Isi Tx "str" false
noncomputable def NonInt (σ:List AObj) (x:V):Prop:=(∃ b,x=.bool b)∨∃ Tx,TyV σ x Tx∧Isi Tx "int" false
noncomputable def NonDict (σ:List AObj) (x:V):Prop:=∃ Tx,TyV σ x Tx∧Isi Tx "dict" false
noncomputable def NonTup (σ:List AObj) (x:V):Prop:=∃ Tx,TyV σ x Tx∧Isi Tx "tuple" false
theorem isi_non {x:V} {T:String} (h:∃ Tx,TyV σ x Tx∧Isi Tx T false) (q:Q (.bool false) σ):WC prog w B A (.builtin "isinstance") [x,.raw (.type T)] σ Q X:=let ⟨_,h1,h2⟩:=h;isi_any h1 h2 q fun _=>rfl
end
end Mine
namespace Mine
open PySem PySem.W PySem.Calls PyProof.Rows
noncomputable def clOf (scope:Scope) (env:Env):List (Str×Addr):=(scope.names.filter fun p=>p.2 == .free).reverse.map fun p=>(p.1,(env.cells.lookup p.1).getD 0)
section
variable {prog:Program} {w:World} {B:Shared} {mg mb:Str→Option Value} {φ φ':List Addr} {σ σ':List AObj} {s s':Shared} {env:Env} {ρ l:List (Str×V)} {A:Around} {X:XT} {Q:V→List AObj→Prop}
theorem cellOf_of {x:Str} (h:(env.cells.lookup x).isSome=true):cellOf env x=pure ((env.cells.lookup x).getD 0):=by
 unfold cellOf
 cases e:env.cells.lookup x with
 | some a=>rfl
 | none=>rw [e] at h;cases h
theorem clos_loop:∀ (names:List (Str×NameKind)) (acc:List (Str×Addr)),(∀ p∈names,(p.2 == .free)=true→(env.cells.lookup p.1).isSome=true)→
  (forIn names acc fun (x:Str×NameKind) (r:List (Str×Addr))=>(match x with
   | (name,kind)=>if (kind == NameKind.free)=true then (do let a ← cellOf env name;pure (ForInStep.yield ((name,a) :: r))) else pure (ForInStep.yield r):Sem (ForInStep (List (Str×Addr))))) =
  pure ((names.filter fun p=>p.2 == .free).reverse.map (fun p=>(p.1,(env.cells.lookup p.1).getD 0))++acc)
 | [],acc,_=>by simp
 | (n,k) :: r,acc,h=>by
  rw [List.forIn_cons]
  have hr:∀ p∈r,(p.2 == .free)=true→(env.cells.lookup p.1).isSome=true:=fun p hp=>h p (.tail _ hp)
  cases hk:k == NameKind.free with
  | true =>
   simp only [hk,if_true]
   rw [cellOf_of (h (n,k) (.head _) hk)]
   simp only [pure_bind]
   rw [clos_loop r _ hr]
   simp [hk]
  | false =>
   simp only [hk,Bool.false_eq_true,if_false,pure_bind]
   rw [clos_loop r _ hr]
   simp [hk]
theorem closureFor_of {scope:Scope} (h:∀ p∈scope.names,(p.2 == .free)=true→(env.cells.lookup p.1).isSome=true):closureFor scope env=pure (clOf scope env):=by
 have:=clos_loop (env:=env) scope.names [] h
 rw [List.append_nil] at this
 unfold closureFor
 simp only [pure_bind,bind_pure]
 exact this
theorem clOf_lookup_aux:∀ (names:List (Str×NameKind)) (y:Str),(names.map (·.1)).Nodup→(y,NameKind.free)∈names→(env.cells.lookup y).isSome=true→
  ((names.filter fun p=>p.2 == .free).reverse.map fun p=>(p.1,(env.cells.lookup p.1).getD 0)).lookup y=env.cells.lookup y:=fun names y hn hm hs=>by
 obtain ⟨a,ha⟩:=Option.isSome_iff_exists.mp hs
 rw [ha]
 refine lookup_of_mem ?_ ?_
 ·rw [List.map_map]
  have:((fun x=>x.1) ∘ fun p:Str×NameKind=>(p.1,(env.cells.lookup p.1).getD 0))=(fun p=>p.1):=rfl
  rw [this,List.map_reverse]
  refine (List.reverse_perm _).nodup_iff.mpr (hn.sublist (List.Sublist.map _ List.filter_sublist))
 ·refine List.mem_map.mpr ⟨(y,.free),List.mem_reverse.mpr (List.mem_filter.mpr ⟨hm,rfl⟩),?_⟩
  simp [ha]
theorem pair_of_name {l:List (Str×Addr)} (h:l.Pairwise fun x y=>x.2≠y.2) {x y:Str} {a b:Addr} (hx:(x,a)∈l) (hy:(y,b)∈l) (hne:x≠y):a≠b:=fun e=>hne (name_of_addr h hx (e ▸ hy))
noncomputable def compB (env:Env) (scope:Scope) (x:Str):Bool :=
 scope.names.all (fun p=>p.2 != .cell) && decide (scope.kind=.function) && scope.names.all (fun p=>p.2 != .local || scope.names.lookup p.1 == some .local) && (scope.names.lookup x == some .local) &&
 scope.names.all (fun p=>p.2 != .free || (env.cells.lookup p.1).isSome && env.kindOf p.1 == some .cell && (relabel scope env).names.lookup p.1 == some .cell) && decide ((scope.names.map (·.1)).Nodup)
noncomputable def freeOf (scope:Scope):List Str:=(scope.names.filter fun p=>p.2 == .free).map (·.1)
theorem CompOk.of {scope:Scope} {x:Str} (hc:env.cells.Pairwise fun x y=>x.2≠y.2) (h:compB env scope x=true):CompOk env scope (clOf scope env) x (freeOf scope):=by
 unfold compB at h
 simp only [Bool.and_eq_true,List.all_eq_true,Bool.or_eq_true,decide_eq_true_eq,bne_iff_ne,ne_eq,beq_iff_eq] at h
 obtain ⟨⟨⟨⟨⟨h1,h2⟩,h3⟩,h4⟩,h5⟩,h6⟩:=h
 have hf:∀ p∈scope.names,(p.2 == .free)=true→(env.cells.lookup p.1).isSome=true:=fun p hp he=>by
  rcases h5 p hp with h | h
  ·exact absurd (by simpa using he) h
  ·exact h.1.1
 refine ⟨closureFor_of hf,h1,h2,fun y hy he=>?_,h4,fun p hp=>?_,?_,fun y hy=>?_⟩
 ·rcases h3 y hy with h | h
  ·exact absurd he h
  ·exact h
 ·obtain ⟨⟨n,k⟩,hq,rfl⟩:=List.mem_map.mp hp
  have hq':=List.mem_filter.mp (List.mem_reverse.mp hq)
  obtain ⟨a,ha⟩:=Option.isSome_iff_exists.mp (hf _ hq'.1 hq'.2)
  have:=mem_of_lookup ha
  simpa [ha] using this
 ·unfold clOf
  rw [List.pairwise_map]
  have hn:((scope.names.filter fun p=>p.2 == .free).reverse.map (·.1)).Nodup:=by
   rw [List.map_reverse]
   exact (List.reverse_perm _).nodup_iff.mpr (h6.sublist (List.Sublist.map _ List.filter_sublist))
  rw [List.Nodup,List.pairwise_map] at hn
  refine hn.imp_of_mem fun {a b} ha hb hne=>?_
  have ha':=List.mem_filter.mp (List.mem_reverse.mp ha)
  have hb':=List.mem_filter.mp (List.mem_reverse.mp hb)
  obtain ⟨u,hu⟩:=Option.isSome_iff_exists.mp (hf _ ha'.1 ha'.2)
  obtain ⟨v,hv⟩:=Option.isSome_iff_exists.mp (hf _ hb'.1 hb'.2)
  simp only [hu,hv,Option.getD_some]
  exact pair_of_name hc (mem_of_lookup hu) (mem_of_lookup hv) hne
 ·obtain ⟨⟨n,k⟩,hq,rfl⟩:=List.mem_map.mp hy
  have hq':=List.mem_filter.mp hq
  have hk:k=.free:=by simpa using hq'.2
  subst hk
  rcases h5 _ hq'.1 with h | h
  ·exact absurd rfl h
  ·exact ⟨h.2,h.1.2,clOf_lookup_aux _ _ h6 hq'.1 h.1.1⟩
theorem cellsFrom_apart:∀ (names:List (Str×NameKind)) (n:Nat) (acc:List (Str×Addr)),(acc.Pairwise fun x y=>x.2≠y.2)→(∀ p∈acc,p.2 < n)→(cellsFrom n names acc).Pairwise fun x y=>x.2≠y.2
 | [],n,acc,h,_=>h
 | (y,k) :: r,n,acc,h,hb=>by
  unfold cellsFrom
  split
  ·refine cellsFrom_apart r (n+1) _ (List.pairwise_cons.mpr ⟨fun p hp=>?_,h⟩) fun p hp=>?_
   ·exact fun (e:n=p.2)=>absurd (e ▸ hb p hp) (Nat.lt_irrefl _)
   ·rcases List.mem_cons.mp hp with rfl | hp
    ·exact Nat.lt_succ_self _
    ·exact Nat.lt_succ_of_lt (hb p hp)
  ·exact cellsFrom_apart r n acc h hb
theorem env_apart {fd:FuncData} {L a:Addr}:(callEnvC fd L a).cells.Pairwise fun x y=>x.2≠y.2:=cellsFrom_apart _ _ _ .nil (fun _ h=>nomatch h)
theorem sub_has {fv:List Str} {y:Str} {v:V} (hy:y∈fv) (hv:ρ.lookup y=some v):(sub ρ fv).lookup y=some v:=by
 induction fv with
 | nil=>cases hy
 | cons z r ih =>
  unfold sub
  rw [List.filterMap_cons]
  by_cases e:y=z
  ·subst e;rw [hv];simp
  ·have hr:=ih ((List.mem_cons.mp hy).resolve_left e)
   cases hz:ρ.lookup z with
   | none=>exact hr
   | some u =>
    simp only [Option.map_some]
    rw [List.lookup_cons,show (y == z)=false from by simpa using e]
    exact hr
theorem Sub.sub {fv:List Str} (hl:l.all (fun p=>fv.contains p.1)=true) (hs:Sub l ρ):Sub l (Mine.sub ρ fv):=fun y v hy=>by
 refine sub_has ?_ (hs y v hy)
 have:=List.all_eq_true.mp hl _ (mem_of_lookup hy)
 simpa using this
theorem E_weak {e:Expr} (hs:Sub l ρ) (h:WE prog w B A env e l σ Q X):WE prog w B A env e ρ σ Q X:=fun φ s G L=>h φ s G (L.sub hs)
noncomputable def CompG (prog:Program) (w:World) (B:Shared) (A:Around) (env cenv:Env) (x:Str) (elt:Expr) (v:V) (σ':List AObj) (K:Nat→List AObj→List V→Prop) (l:List (Str×V)):Prop :=
 ∃ σ₁ n el C,∃ y:Nat→V,WIt prog w B A v σ' σ₁ n el C∧n≤sizeLine∧(∀ i,C (σ₁++[.list ((List.range i).map y)]))∧
  (∀ D i,i < n→WE prog w B A { cenv with locals:=D } elt ((x,el i) :: l) (σ₁++[.list ((List.range i).map y)]) (fun v σ₃=>v=y i∧σ₃=σ₁++[.list ((List.range i).map y)]) (fun _ _ _ _=>False))∧
  K σ₁.length σ₁ ((List.range n).map y)
theorem X_compl {elt iter:Expr} {x y:Str} {px py:Pos} {scope:Scope} {pos spos:Pos} {rest:List Stmt} {Q:Fl→List (Str×V)→List AObj→Prop} (l:List (Str×V)) (hl:l.all (fun p=>(freeOf scope).contains p.1)=true) (hs:Sub l ρ) (hb:compB env scope x=true) (hc:env.cells.Pairwise fun x y=>x.2≠y.2)
  (h:WE prog w B A env iter ρ σ (fun v σ'=>CompG prog w B A env (compEnvC scope (clOf scope env) 0 env) x elt v σ' (fun k σ₁ ys=>WX prog w B A env rest ((y,.ref k) :: ρ) (σ₁++[.list ys]) Q X) l) X)
  (hy:env.kindOf y=some .local:=by kernel_rfl!)
  (hsw:swapsWith (.ListComp elt [⟨.Name x px,iter,[],0⟩] scope pos) (some (.Name y py)) spos.line env=pure true:=by with_unfolding_all rfl)
  (hs':∀ v,foldedSetIterable iter env v=pure v:=by intro _;with_unfolding_all rfl) :
  WX prog w B A env (.Assign [.Name y py] (.ListComp elt [⟨.Name x px,iter,[],0⟩] scope pos) spos :: rest) ρ σ Q X:=by
 refine X_cons (X_comp (CompOk.of hc hb) (h.mono fun v σ' hx=>?_) hy hsw hs')
 obtain ⟨σ₁,n,el,C,y,hit,hn,hC,helt,hK⟩:=hx
 refine ⟨σ₁,n,el,C,fun i σ₂=>σ₂=σ₁++[.list ((List.range i).map y)],hit,hC 0,rfl,?_,?_⟩
 ·rintro D i _ hi hCi rfl
  refine (E_weak (Sub.both (hs.sub hl)) (helt D i hi)).mono ?_
  rintro _ _ ⟨rfl,rfl⟩
  have e:(σ₁++[AObj.list ((List.range i).map y)]).set σ₁.length (.list ((List.range i).map y++[y i]))=σ₁++[.list ((List.range (i+1)).map y)]:=by
   rw [List.set_append_right _ _ (Nat.le_refl _)]
   simp [List.range_succ]
  refine ⟨(List.range i).map y,by simp,by simp;(clear e hCi hK helt hC hit hs' hsw hy h hc hb hs hl;lia),?_,?_⟩
  ·rw [e];exact hC (i+1)
  ·exact e
 ·rintro _ _ rfl
  exact hK
theorem E_compl {elt iter:Expr} {x:Str} {px:Pos} {scope:Scope} {pos:Pos} (l:List (Str×V)) (hl:l.all (fun p=>(freeOf scope).contains p.1)=true) (hs:Sub l ρ) (hb:compB env scope x=true) (hc:env.cells.Pairwise fun x y=>x.2≠y.2)
  (h:WE prog w B A env iter ρ σ (fun v σ'=>CompG prog w B A env (compEnvC scope (clOf scope env) 0 env) x elt v σ' (fun k σ₁ ys=>Q (.ref k) (σ₁++[.list ys])) l) X)
  (hs':∀ v,foldedSetIterable iter env v=pure v:=by intro _;with_unfolding_all rfl) :
  WE prog w B A env (.ListComp elt [⟨.Name x px,iter,[],0⟩] scope pos) ρ σ Q X:=by
 refine E_comp (CompOk.of hc hb) (h.mono fun v σ' hx=>?_) hs'
 obtain ⟨σ₁,n,el,C,y,hit,hn,hC,helt,hK⟩:=hx
 refine ⟨σ₁,n,el,C,fun i σ₂=>σ₂=σ₁++[.list ((List.range i).map y)],hit,hC 0,rfl,?_,?_⟩
 ·rintro D i _ hi hCi rfl
  refine (E_weak (Sub.both (hs.sub hl)) (helt D i hi)).mono ?_
  rintro _ _ ⟨rfl,rfl⟩
  have e:(σ₁++[AObj.list ((List.range i).map y)]).set σ₁.length (.list ((List.range i).map y++[y i]))=σ₁++[.list ((List.range (i+1)).map y)]:=by
   rw [List.set_append_right _ _ (Nat.le_refl _)]
   simp [List.range_succ]
  refine ⟨(List.range i).map y,by simp,by simp;(clear e hCi hK helt hC hit hs' h hc hb hs hl;lia),?_,?_⟩
  ·rw [e];exact hC (i+1)
  ·exact e
 ·rintro _ _ rfl
  exact hK
theorem small_size {n:Nat} (h:n≤100000):n≤sizeLine:=Nat.le_trans h (by decide +kernel)
theorem at_end {ob:AObj}:(σ++[ob])[σ.length]?=some ob:=by simp
theorem set_end {ob ob':AObj}:(σ++[ob]).set σ.length ob'=σ++[ob']:=by rw [List.set_append_right _ _ (Nat.le_refl _)];simp
end
end Mine
namespace Mine
open PySem PySem.W PySem.Calls PyProof.Rows
section
variable {M:Model} {A:Around} {E:Value→Shared→Prop}
theorem for_range {β:Type} {n:Nat} {f:Nat→β→Sem (ForInStep β)} (I:Nat→β→Shared→Prop) {Q:β→Shared→Prop}
  (hstep:∀ i c s,i < n→I i c s→wpAny M A (f i c) (fun r s'=>match r with | .done c'=>Q c' s' | .yield c'=>I (i+1) c' s') E s) (hend:∀ c s,I n c s→Q c s) {c:β} {s:Shared} (h:I 0 c s) :
  wpAny M A (forIn [0:n] c f) Q E s:=by
 rw [Std.Legacy.Range.forIn_eq_forIn_range']
 have key:∀ (m i:Nat) (c:β) (s:Shared),i+m=n→I i c s→wpAny M A (forIn (List.range' i m 1) c f) Q E s:=by
  intro m
  induction m with
  | zero=>intro i c s e hI;obtain rfl:i=n:=e;exact wpAny_pure (hend c s hI)
  | succ m ih =>
   intro i c s e hI
   rw [List.range'_succ,List.forIn_cons]
   refine wpAny_bind (wpAny_mono (hstep i c s (by (clear hI ih h hend hstep;lia)) hI) (fun r s' hr=>?_) fun _ _ x=>x)
   cases r with
   | done c'=>exact wpAny_pure hr
   | yield c'=>exact ih (i+1) c' s' (by (clear hr hI ih h hend hstep;lia)) hr
 have:=key n 0 c s (Nat.zero_add n) h
 simpa [Std.Legacy.Range.size] using this
end
noncomputable def Hits (A:Around) (s:Shared) (kb:List (Key×Value)):List (Key×Value)→Bool→Prop
 | [],b=>b=true
 | p :: r,b=>(valueAt kb p.1=none∧b=false)∨∃ y e c,valueAt kb p.1=some y∧SeqAt.EqAt A s p.2 y e∧Hits A s kb r c∧b=(e && c)
section
variable {prog:Program} {w:World} {A:Around} {E:Value→Shared→Prop} {s:Shared}
theorem dict_same {nm:String} {a b:Addr} {ka kb:List (Key×Value)} {r:Bool} {Q:Bool→Shared→Prop} (ha:(a == sysModules)=false) (hb:(b == sysModules)=false)
  (da:s.heap.DictOf (kk prog w) a ka) (db:s.heap.DictOf (kk prog w) b kb) (hits:Hits A s kb ka r) (h:Q (ka.length == kb.length && r) s) :
  wpAny (model prog w) A (Builtin.Dict.samePairs nm a b) Q E s:=by
 obtain ⟨oa,es,ep,hoa,_,hda,hka,hpa,_⟩:=da
 obtain ⟨ob,fs,ep',hob,_,hdb,hkb,hpb,_⟩:=db
 have la:es.size=ka.length:=by rw [← hpa.length];exact Array.length_toList.symm
 have lb:fs.size=kb.length:=by rw [← hpb.length];exact Array.length_toList.symm
 unfold Builtin.Dict.samePairs Builtin.Dict.showsAll
 rw [ha,hb]
 simp only [Bool.false_eq_true,if_false]
 refine wpAny_bind (wpAny_pure (wpAny_bind (wpAny_pure (wpAny_bind (wpAny_dictEntries hoa hda (wpAny_bind (wpAny_dictEntries hob hdb ?_)))))))
 by_cases hsz:es.size=fs.size
 ·have e0:(es.size != fs.size)=false:=by rw [hsz];exact bne_self_eq_false _
  rw [if_neg (by rw [e0];exact Bool.false_ne_true)]
  have h':Q r s:=by
   have e1:(ka.length == kb.length)=true:=by rw [← la,← lb,hsz];exact beq_self_eq_true _
   rw [e1,Bool.true_and] at h;exact h
  refine wpAny_bind (wpAny_dictEpoch hoa hda (wpAny_bind ?_))
  refine for_range (I:=fun i q s'=>s'=s∧q=(none,())∧Hits A s kb (ka.drop i) r) ?_ ?_ ⟨rfl,rfl,hits⟩
  ·rintro i q s' hi ⟨rfl,rfl,hh⟩
   refine wpAny_bind (wpAny_dictEntries hoa hda ?_)
   rw [Array.getElem?_eq_getElem hi]
   have hi':i < ka.length:=by rw [← la];exact hi
   rw [List.drop_eq_getElem_cons hi'] at hh
   obtain ⟨hkey,hval⟩:=hpa.get? (i:=i) (e:=es[i]) (k:=ka[i].1) (v:=ka[i].2) (by rw [Array.getElem?_toList];exact Array.getElem?_eq_getElem hi) (List.getElem?_eq_getElem hi')
   obtain ⟨k',hk',hhash⟩:=hka es[i] (Array.getElem_mem hi)
   rw [(kk prog w).inj _ _ _ hk' hkey] at hhash
   have hfind:findBy (kk prog w).is fs ka[i].1=valueAt kb ka[i].1:=by
    rw [← hpb.find ka[i].1]
    obtain ⟨l⟩:=fs
    simp [findBy]
   show wpAny _ _ (holding [es[i].key,es[i].val] _ >>= _) _ _ _
   rw [hhash]
   refine wpAny_bind (wpAny_holding (wpAny_bind (wpAny_dictFind_of hkey hob hdb hkb ?_)))
   cases hj:fs.findIdx? fun e=>(kk prog w).is ka[i].1 e.key with
   | none =>
    have hn:valueAt kb ka[i].1=none:=by rw [← hfind,findBy_of_findIdx?,hj]
    rcases hh with ⟨_,er⟩ | ⟨y,_,_,hy,_⟩
    ·subst er
     refine wpAny_pure ?_
     show wpAny _ _ (if (!false)=true then _ else _) _ _ _
     exact wpAny_pure (wpAny_pure h')
    ·rw [hn] at hy;cases hy
   | some j =>
    obtain ⟨hjl,_,_⟩:=Array.findIdx?_eq_some_iff_getElem.mp hj
    have hv:valueAt kb ka[i].1=some fs[j].val:=by
     rw [← hfind,findBy_of_findIdx?,hj]
     simp [Array.getElem?_eq_getElem hjl]
    refine wpAny_bind (wpAny_dictEntries hob hdb ?_)
    rw [Array.getElem?_eq_getElem hjl]
    rcases hh with ⟨hn,_⟩ | ⟨y,e,c,hy,he,hr,er⟩
    ·rw [hv] at hn;cases hn
    ·rw [hv] at hy
     injection hy with hy
     rw [← hy,← hval] at he
     refine wpAny_holding (he prog w _ _ ?_)
     subst er
     cases e with
     | false =>
      show wpAny _ _ (if (!false)=true then _ else _) _ _ _
      exact wpAny_pure (wpAny_pure h')
     | true =>
      show wpAny _ _ (if (!true)=true then _ else _) _ _ _
      refine wpAny_bind (wpAny_dictEpoch hoa hda ?_)
      rw [if_neg (by simp)]
      rw [Bool.true_and] at h' ⊢
      exact wpAny_pure ⟨rfl,rfl,hr⟩
  ·rintro q s' ⟨rfl,rfl,hh⟩
   rw [la,List.drop_length] at hh
   have hh':r=true:=hh
   subst hh'
   exact wpAny_pure h'
 ·have e0:(es.size != fs.size)=true:=by simpa using hsz
  rw [if_pos e0]
  have e1:(ka.length == kb.length)=false:=by rw [← la,← lb];simpa using hsz
  rw [e1,Bool.false_and] at h
  exact wpAny_bind (wpAny_rule (wpAny_pure h))
theorem dict_ne {a b:Addr} {ka kb:List (Key×Value)} {r:Bool} {Q:Value→Shared→Prop} (ha:(a == sysModules)=false) (hb:(b == sysModules)=false)
  (da:s.heap.DictOf (kk prog w) a ka) (db:s.heap.DictOf (kk prog w) b kb) (hu:A.units < cLine) (hits:Hits A.in1 s kb ka r) (h:Q (.bool (!(ka.length == kb.length && r))) s) :
  wpAny (model prog w) A (compareOp .NotEq (.ref a) (.ref b)) Q E s:=by
 refine wpAny_richCompare_same_room (op:=.NotEq) da.typeIs db.typeIs PySem.F.slot_dict_ne (wpAny_call_entry PySem.F.slot_dict_ne da.typeIs PySem.F.entry_dict_ne ?_ (PySem.F.args_dict_ne_2 _ _)) hu
 show wpAny _ _ (Builtin.Dict.dictSlotArgs "__ne__" ⟨[.ref a,.ref b],[]⟩ >>= _) _ _ s
 refine wpAny_bind ?_
 unfold Builtin.Dict.dictSlotArgs
 refine wpAny_bind (wpAny_notOrdered_dict da.typeIs ?_)
 show wpAny _ _ (pure (Value.ref a,Value.ref b)) _ _ s
 refine wpAny_pure (wpAny_bind (wpAny_isInstance (T:="dict") db.typeIs PySem.F.sub_dict_dict ?_))
 simp only [Bool.not_true,Bool.false_eq_true,if_false]
 refine wpAny_bind (wpAny_pure (wpAny_bind (wpAny_pure (wpAny_bind (dict_same ha hb da db hits (wpAny_pure ⟨_,rfl,(fun x=>nomatch x),?_⟩))))))
 simpa using h
end
end Mine
namespace Mine
open PySem PySem.W PySem.Calls PyProof.Rows
structure Src (prog:Program) (w:World) (T:String) (r:Addr) (n:Nat) (Good:List Value→Prop) (OK:Heap→Prop):Prop where
 type:∀ s:Shared,OK s.heap→s.TypeIs (.ref r) T
 keep:∀ h h':Heap,OK h→(∀ o,h.get? r=some o→h'.get? r=some o)→OK h'
 notList:(Value.type T == Value.type "list")=false
 notTuple:(Value.type T == Value.type "tuple")=false
 hint:∀ (A:Around) (E:Value→Shared→Prop) (s:Shared) (Q:Bool→Shared→Prop),OK s.heap→Q false s→wpAny (model prog w) A (Builtin.List.listLengthHint (.ref r)) Q E s
 iter:∀ (A:Around) (E:Value→Shared→Prop) (s:Shared) (Q:Value→Shared→Prop),A.handled=none→OK s.heap→
  (∀ (I:Addr) (s₁:Shared) (fp:List Addr) (P:Nat→Value→Prop) (St:Nat→Heap→Prop),(∀ b o,s.heap.get? b=some o→s₁.heap.get? b=some o)→s₁.gens=s.gens→s₁.os=s.os→
   (∀ b∈fp,b=r∨s.heap.get? b=none)→s.heap.get? I=none→Walks prog w A I fp [I] n P St→St 0 s₁.heap→(∀ acc,ItemsOf P acc n→Good acc.toList)→Q (.ref I) s₁)→wpAny (model prog w) A (pyIter (.ref r)) Q E s
section
variable {prog:Program} {w:World} {A:Around} {E:Value→Shared→Prop} {s:Shared} {T:String} {r:Addr} {n:Nat} {Good:List Value→Prop} {OK:Heap→Prop}
noncomputable def Filled (Good:List Value→Prop) (S:Addr) (s s':Shared):Prop :=
 (∀ b o,b≠S→s.heap.get? b=some o→s'.heap.get? b=some o)∧s'.gens=s.gens∧s'.os=s.os∧∃ acc c,s'.heap.get? S=some { cls:=.type "list",dict:=none,data:=.seq acc c,slots:=#[] }∧Good acc.toList
theorem src_extend {R:Result→Shared→Prop} (K:Src prog w T r n Good OK) (hh:A.handled=none) (hok:OK s.heap) (S:Addr) (hSr:S≠r) (res:Value) (c₀:Nat) (hS:s.heap.get? S=some { cls:=.type "list",data:=.seq #[] c₀ })
  (hR:∀ s',Filled Good S s s'→R (.ok (.ret res)) s') (hn:n≤sizeLine) :
  wpAny (model prog w) A.in1 (Builtin.List.listExtendWith (.ref S) (.ref r) res)
   (fun fin s'=>match fin with | .done f=>R (.ok f) s' | .again c'=>c'.quiet=true∧codeAny (model prog w) A c' R s') (fun e s'=>R (.error e) s') s:=by
 unfold Builtin.List.listExtendWith
 refine wpAny_bind (wpAny_typeOf (T:=T) (K.type s hok) ?_)
 have h1:Builtin.List.listSameRef (.ref S) (.ref r)=false:=by simp [Builtin.List.listSameRef,hSr]
 simp only [h1,K.notList,K.notTuple,Bool.or_false,Bool.false_eq_true,if_false]
 refine wpAny_bind (K.iter A.in1 _ s _ hh hok fun I s₁ fp P St hk hg ho hfp hI W st good=>?_)
 have hSf:S∉fp:=fun hm=>by
  rcases hfp S hm with e | e
  ·exact hSr e
  ·rw [e] at hS;cases hS
 have hSI:S≠I:=fun e=>by rw [e,hI] at hS;cases hS
 have hS₁:=hk S _ hS
 have key:∀ (h:Heap) (c₁:Nat),St 0 h→(∀ b o,b≠S→s.heap.get? b=some o→h.get? b=some o)→
   h.get? S=some { cls:=.type "list",data:=.seq #[] c₁ }→codeAny (model prog w) A (.builtin "list.extend.loop" ⟨[.ref S,.ref I,res],[]⟩) R { s₁ with heap:=h }:=by
  intro h c₁ hst hkeep hS₂
  refine codeAny_extend_loopS W.toS hn S hSf res n 0 _ #[] c₁ rfl (Nat.zero_le _) hst hS₂ (ItemsOf.nil _) fun s' acc' c' hm hS' hacc=>?_
  refine hR s' ⟨fun b o hb e=>hm.heap b o (fun hmem=>?_) (hkeep b o hb e),hm.gens.trans hg,hm.os.trans ho,acc',c',hS',good acc' hacc⟩
  rcases List.mem_cons.mp hmem with e' | hmem
  ·exact hb e'
  ·rw [List.mem_singleton.mp hmem,hI] at e;cases e
 refine wpAny_bind (wpAny_holding (K.hint _ _ _ _ (K.keep _ _ hok fun o e=>hk r o e) ?_))
 refine wpAny_ite_split (fun _=>?_) (fun _=>wpAny_pure ⟨plainId_quiet PySem.F.plain_extend_loop _,key s₁.heap c₀ st (fun b o _ e=>hk b o e) hS₁⟩)
 refine wpAny_bind (wpAny_rule (wpAny_bind ?_))
 show wpAny _ _ (updateSeq S (·.push .none) >>= fun _=>updateSeq S (·.pop)) _ _ _
 refine wpAny_bind (wpAny_updateSeq hS₁ rfl ?_)
 have hS₂:=Heap.get?_update_self (Obj.mapSeq (·.push Value.none)) hS₁ rfl
 refine wpAny_updateSeq (hz:=by seq_fits) hS₂ rfl ?_
 have hS₃:=Heap.get?_update_self (Obj.mapSeq (·.pop)) hS₂ rfl
 refine wpAny_pure ⟨plainId_quiet PySem.F.plain_extend_loop _,key _ _ ?_ (fun b o hb e=>?_) hS₃⟩
 ·refine W.frame 0 _ _ st fun b hb o e=>?_
  have hbS:b≠S:=fun h=>hSf (h ▸ hb)
  exact (Heap.get?_update_other _ _ (Ne.symm hbS)).trans ((Heap.get?_update_other _ _ (Ne.symm hbS)).trans e)
 ·exact (Heap.get?_update_other _ _ (Ne.symm hb)).trans ((Heap.get?_update_other _ _ (Ne.symm hb)).trans (hk b o e))
theorem src_lt (K:Src prog w T r n Good OK) (hok:OK s.heap):r < s.heap.objs.size:=by
 obtain ⟨o,ho,_⟩:=K.type s hok;exact Heap.lt_size ho
theorem src_list {Q:Value→Shared→Prop} (K:Src prog w T r n Good OK) (hh:A.handled=none) (hok:OK s.heap) (hn:n≤sizeLine)
  (hQ:∀ s' acc c,(∀ b o,s.heap.get? b=some o→s'.heap.get? b=some o)→s'.gens=s.gens→s'.os=s.os→s'.heap.get? s.heap.objs.size=some { cls:=.type "list",dict:=none,data:=.seq acc c,slots:=#[] }→Good acc.toList→Q (.ref s.heap.objs.size) s') :
  wpAny (model prog w) A (call (.type "list") [.ref r]) Q E s:=by
 refine callType_codes (Q₁:=fun obj s₁=>obj=.ref s.heap.objs.size∧s₁ = { s with heap:=s.heap.push { cls:=.type "list",data:=.seq #[] } }) PySem.F.called_list (PySem.F.typeCall_list_1 _) PySem.F.entry_list_init
  (code_list_new _ ⟨rfl,rfl⟩) fun obj s₁ h₁=>?_
 obtain ⟨rfl,rfl⟩:=h₁
 have hS:(s.heap.push { cls:=.type "list",data:=.seq #[] }).get? s.heap.objs.size=some { cls:=.type "list",data:=.seq #[] }:=Heap.get?_push_size _ rfl
 have hlt:=src_lt K hok
 refine ⟨⟨_,hS,rfl⟩,PySem.F.args_list_init_2 _ _,?_⟩
 show wpAny _ _ (do let old ← Builtin.List.listItems (.ref s.heap.objs.size);Builtin.List.listUpdate (.ref s.heap.objs.size) (fun _=>#[]);letGo old.toList.reverse;Builtin.List.listExtendWith (.ref s.heap.objs.size) (.ref r) .none) _ _ _
 refine wpAny_bind (listItems_at hS rfl (wpAny_bind (listUpdate_at hS rfl (wpAny_bind (wpAny_letGo ?_)))))
 have hS₂:=Heap.get?_update_self (Obj.mapSeq (fun _=>(#[]:Array Value))) hS rfl
 have oth:∀ b o,b≠s.heap.objs.size→(s.heap.push { cls:=.type "list",data:=.seq #[] }).get? b=some o→((s.heap.push { cls:=.type "list",data:=.seq #[] }).update s.heap.objs.size (Obj.mapSeq (fun _=>(#[]:Array Value)))).get? b=some o :=
  fun b o hb e=>(Heap.get?_update_other _ _ (Ne.symm hb)).trans e
 refine src_extend (A:=A.in1) K hh (K.keep _ _ hok fun o e=>oth r o (Nat.ne_of_lt hlt) (Heap.get?_push_of_some _ e)) s.heap.objs.size (Nat.ne_of_gt hlt) .none _ hS₂ (fun s' hF=>?_) hn
 obtain ⟨hk,hg,ho,acc,c,hS',hgood⟩:=hF
 exact ⟨rfl,hQ s' acc c (fun b o e=>hk b o (Nat.ne_of_lt (Heap.lt_size e)) (oth b o (Nat.ne_of_lt (Heap.lt_size e)) (Heap.get?_push_of_some _ e))) hg ho hS' hgood⟩
theorem src_collect {R:List Value→Shared→Prop} (K:Src prog w T r n Good OK) (hh:A.handled=none) (hok:OK s.heap) (hn:n≤sizeLine)
  (h:∀ s' acc,(∀ b o,s.heap.get? b=some o→s'.heap.get? b=some o)→s'.gens=s.gens→s'.os=s.os→Good acc→R acc s') :
  wpAny (model prog w) A (collect (.ref r)) R E s:=by
 have hlt:=src_lt K hok
 unfold collect
 refine wpAny_bind (wpAny_runValue (codeAny_builtin PySem.F.entry_proto_collect ?_))
 rw [Around.under_plainId PySem.F.plain_proto_collect _]
 show wpAny _ A.in1 (newList [] >>= fun l=>again (.builtin "list.__iadd__" ⟨[l,.ref r],[]⟩)) _ _ s
 refine wpAny_bind (wpAny_newObj_type ?_)
 refine wpAny_pure ⟨plainId_quiet PySem.F.plain_list_iadd _,codeAny_builtin PySem.F.entry_list_iadd ?_⟩
 rw [Around.under_plainId PySem.F.plain_list_iadd _]
 have hS₁:(s.heap.push { cls:=.type "list",data:=.seq ([]:List Value).toArray }).get? s.heap.objs.size=some { cls:=.type "list",data:=.seq #[] }:=Heap.get?_push_size _ rfl
 show wpAny _ A.in1 (Builtin.List.listExtendWith (.ref s.heap.objs.size) (.ref r) (.ref s.heap.objs.size)) _ _ _
 refine wpAny_mono (src_extend (A:=A) (s:={ s with heap:=s.heap.push { cls:=.type "list",data:=.seq ([]:List Value).toArray } })
  (R:=fun (q:Result) (s':Shared)=>q=.ok (.ret (.ref s.heap.objs.size))∧Filled Good s.heap.objs.size { s with heap:=s.heap.push { cls:=.type "list",data:=.seq ([]:List Value).toArray } } s')
  K hh (K.keep _ _ hok fun o e=>Heap.get?_push_of_some _ e) s.heap.objs.size (Nat.ne_of_gt hlt) (.ref s.heap.objs.size) 0 hS₁ (fun s' hF=>⟨rfl,hF⟩) hn) (fun fin s' x=>?_) fun e s' x=>?_
 ·have go:∀ s₂,Filled Good s.heap.objs.size { s with heap:=s.heap.push { cls:=.type "list",data:=.seq ([]:List Value).toArray } } s₂→wpAny (model prog w) A (do
    let o ← load s.heap.objs.size
    match o.data with
    | .seq xs _=>pure xs.toList
    | _=>unsupported "internal:collect") R E s₂:=fun s₂ hF=>by
   obtain ⟨hk,hg,ho,acc,c,hS',hgood⟩:=hF
   refine wpAny_bind (wpAny_load hS' (wpAny_pure (h s₂ acc.toList (fun b o e=>hk b o (Nat.ne_of_lt (Heap.lt_size e)) (Heap.get?_push_of_some _ e)) hg ho hgood)))
  cases fin with
  | done f =>
   obtain ⟨e,hF⟩:=x
   cases e
   exact go s' hF
  | again c₁=>exact ⟨x.1,codeAny_mono x.2 fun q s₂ y=>by obtain ⟨rfl,hF⟩:=y;exact go s₂ hF⟩
 ·obtain ⟨e,_⟩:=x;cases e
end
noncomputable def KeysGood (kvs:List (Key×Value)) (vs:List Value):Prop:=vs.length=kvs.length∧∀ (i:Nat) (v:Value),vs[i]?=some v→∃ (k:Key) (x:Value),kvs[i]?=some (k,x)∧k.is v=true
section
variable {prog:Program} {w:World} {d:Addr} {kvs:List (Key×Value)} {ep:Nat}
theorem hint_dict {A:Around} {E:Value→Shared→Prop} {s:Shared} {r:Addr} {Q:Bool→Shared→Prop} (hT:s.TypeIs (.ref r) "dict") (h:Q false s):wpAny (model prog w) A (Builtin.List.listLengthHint (.ref r)) Q E s:=by
 unfold Builtin.List.listLengthHint
 refine wpAny_bind (wpAny_specialOf hT PySem.F.slot_dict_len.lookup ?_)
 generalize hid:("dict.__len__":String)=id0
 wp_delta
 rw [show splitId id0=some ("dict","__len__") from by subst hid;decide +kernel]
 subst hid
 refine wpAny_bind (wpAny_isInstance (T:="dict") (b:=true) hT (by rw [isSubtype_type];kernel_rfl) ?_)
 refine wpAny_ite_split (fun hab=>absurd hab (by decide)) (fun _=>?_)
 refine wpAny_ite_split (fun _=>?_) (fun hab=>absurd (by decide +kernel) hab)
 exact wpAny_bind (wpAny_typeOf hT (wpAny_pure h))
theorem src_dict (lo:(d == sysModules)=false):Src prog w "dict" d kvs.length (KeysGood kvs) (fun h=>h.DictAt (kk prog w) d kvs ep) where
 type:=fun _ hm=>hm.dictOf.typeIs
 keep:=fun _ _ hm hk=>hm.at' fun o e=>hk o e
 notList:=by decide
 notTuple:=by decide
 hint:=fun _ _ _ _ hm hq=>hint_dict hm.dictOf.typeIs hq
 iter:=fun A E s Q hh hm hq=>wpAny_pyIter_dict lo hm (hq _ _ [s.heap.objs.size,d] _ _ (fun b o e=>Heap.get?_push_of_some _ e) rfl rfl
  (fun b hb=>by rcases List.mem_cons.mp hb with rfl | hb;exact .inr (get?_size _);exact .inl (List.mem_singleton.mp hb)) (get?_size _)
  (Walks.dictKeys hh _ d (Nat.ne_of_lt hm.lt_size) kvs ep) ⟨⟨_,Heap.get?_push_size _ rfl,rfl,rfl⟩,hm.push _⟩
  fun acc hacc=>⟨by rw [Array.length_toList];exact hacc.1,fun i v e=>hacc.2 i v (by rw [← Array.getElem?_toList];exact e)⟩)
end
end Mine
namespace Mine
open PySem PySem.W PySem.Calls PyProof.Rows
mutual
inductive Dat (σ:List AObj):V→PyData→Prop
 | none:Dat σ .none .none
 | bool (b:Bool):Dat σ (.bool b) (.bool b)
 | int (i:Int):Dat σ (.int i) (.int i)
 | str (x:Str):Dat σ (.str x) (.str x)
 | tup {xs:List V} {ds:List PyData}:Dats σ xs ds→Dat σ (.tup xs) (.tuple ds)
 | list {k:Nat} {xs:List V} {ds:List PyData}:σ[k]?=some (.list xs)→Dats σ xs ds→Dat σ (.ref k) (.list ds)
inductive Dats (σ:List AObj):List V→List PyData→Prop
 | nil:Dats σ [] []
 | cons {x:V} {d:PyData} {xs:List V} {ds:List PyData}:Dat σ x d→Dats σ xs ds→Dats σ (x :: xs) (d :: ds)
end
section
variable {prog:Program} {w:World} {B:Shared} {mg mb:Str→Option Value} {φ φ':List Addr} {σ σ':List AObj} {s s':Shared} {env:Env} {ρ l:List (Str×V)} {A:Around} {X:XT} {Q:V→List AObj→Prop}
mutual
theorem Dat.reads (G:St prog w B φ σ s):∀ {x:V} {d:PyData} {v:Value},Dat σ x d→Val φ s.heap x v→∃ as,Reads s.heap v d as
 | _,_,_,.none,hv=>by obtain rfl:=hv.of_none;exact ⟨_,.none⟩
 | _,_,_,.bool b,hv=>by obtain rfl:=hv.of_bool;exact ⟨_,.bool _⟩
 | _,_,_,.int i,hv=>by obtain ⟨t,rfl⟩:=hv.of_int;exact ⟨_,.int _ _⟩
 | _,_,_,.str x,hv=>by obtain ⟨t,rfl⟩:=hv.of_str;exact ⟨_,.str _ _⟩
 | _,_,_,.tup hs,hv=>by
  obtain ⟨a,vs,rfl,⟨o,ho,hc,n,hd⟩,hvs⟩:=hv.of_tup
  obtain ⟨as,r⟩:=Dats.reads G hs hvs
  exact ⟨_,.tuple ho hc hd r⟩
 | _,_,_,.list hσ hs,hv=>by
  obtain ⟨a,rfl,ha⟩:=hv.of_ref
  obtain ⟨a',ha',vs,n,ho,hvs⟩:=G.get hσ
  rw [ha] at ha';cases ha'
  obtain ⟨as,r⟩:=Dats.reads G hs hvs
  exact ⟨_,.list ho rfl rfl r⟩
theorem Dats.reads (G:St prog w B φ σ s):∀ {xs:List V} {ds:List PyData} {vs:List Value},Dats σ xs ds→Vals φ s.heap xs vs→∃ as,ReadsAll s.heap vs ds as
 | _,_,_,.nil,hv=>by rw [Vals] at hv;subst hv;exact ⟨_,.nil⟩
 | _,_,_,.cons h1 h2,hv=>by
  rw [Vals] at hv
  obtain ⟨v,r,rfl,hv1,hv2⟩:=hv
  obtain ⟨as,r1⟩:=Dat.reads G h1 hv1
  obtain ⟨bs,r2⟩:=Dats.reads G h2 hv2
  exact ⟨_,.cons r1 r2⟩
end
theorem O_eqd {x y:V} {d e:PyData} (h1:Dat σ x d) (h2:Dat σ y e) (c1:d.canLay0=true) (c2:e.canLay0=true) (hu:A.units+min d.depth e.depth < cLine) (q:Q (.bool (PyData.eqv d e)) σ):W2 prog w B A (compareOp .Eq) x y σ Q X:=fun φ s v u G hv hu'=>by
 obtain ⟨as,r1⟩:=h1.reads G hv
 obtain ⟨bs,r2⟩:=h2.reads G hu'
 exact SeqAt.compareEq_reads r1 r2 c1 c2 hu (Post.here G ⟨_,.bool_ _,q⟩)
theorem O_ned {x y:V} {d e:PyData} (h1:Dat σ x d) (h2:Dat σ y e) (c1:d.canLay0=true) (c2:e.canLay0=true) (hu:A.units+min d.depth e.depth < cLine) (q:Q (.bool (!PyData.eqv d e)) σ):W2 prog w B A (compareOp .NotEq) x y σ Q X:=fun φ s v u G hv hu'=>by
 obtain ⟨as,r1⟩:=h1.reads G hv
 obtain ⟨bs,r2⟩:=h2.reads G hu'
 exact SeqAt.compareNe_reads r1 r2 c1 c2 hu (Post.here G ⟨_,.bool_ _,q⟩)
noncomputable def sameB (veq:V→V→Bool) (es es':List (Key×V)):Bool:=es.all fun p=>match at? es' p.1 with | some y=>veq p.2 y | none=>false
noncomputable def VeqOk (σ:List AObj) (veq:V→V→Bool) (es es':List (Key×V)):Prop :=
 ∀ p∈es,∀ y,at? es' p.1=some y→∃ d e,Dat σ p.2 d∧Dat σ y e∧d.canLay0=true∧e.canLay0=true∧d.depth≤100∧PyData.eqv d e=veq p.2 y
theorem hits_of {veq:V→V→Bool} {es es':List (Key×V)} {kvs kvs':List (Key×Value)} (G:St prog w B φ σ s) (hu:A.units+100 < cLine) (h':Ents φ s.heap es' kvs'):∀ {es:List (Key×V)} {kvs:List (Key×Value)},Ents φ s.heap es kvs→VeqOk σ veq es es'→Hits A s kvs' kvs (sameB veq es es')
 | _,_,.nil,_=>rfl
 | _,_,@Ents.cons _ _ k x v es kvs hx hr,hv=>by
  have ih:=hits_of (veq:=veq) (es:=es) (kvs:=kvs) G hu h' hr fun p hp=>hv p (.tail _ hp)
  rcases h'.at? k with ⟨y,u,e1,e2,e3⟩ | ⟨e1,e2⟩
  ·obtain ⟨d,e,d1,d2,c1,c2,hdep,he⟩:=hv (k,x) (.head _) y e1
   obtain ⟨as,r1⟩:=d1.reads G hx
   obtain ⟨bs,r2⟩:=d2.reads G e3
   have:=SeqAt.eqAt_reads d e A s v u as bs r1 r2 c1 c2 (by have:=Nat.min_le_left d.depth e.depth;exact qHB hu hdep)
   have h:Hits A s kvs' ((k,v) :: kvs) (PyData.eqv d e && sameB veq es es'):=.inr ⟨_,_,_,e2,this,ih,rfl⟩
   have es':sameB veq ((k,x) :: es) es'=(PyData.eqv d e && sameB veq es es'):=by simp [sameB,e1,he]
   rw [es'];exact h
  ·have es':sameB veq ((k,x) :: es) es'=false:=by simp [sameB,e1]
   rw [es'];exact .inl ⟨e2,rfl⟩
theorem O_ne_dict {j k:Nat} {veq:V→V→Bool} {es es':List (Key×V)} {e e':Option Nat} (h1:σ[j]?=some (.dict es e)) (h2:σ[k]?=some (.dict es' e')) (hv:VeqOk σ veq es es') (hu:A.units+200 < cLine) (q:Q (.bool (!(es.length == es'.length && sameB veq es es'))) σ) :
  W2 prog w B A (compareOp .NotEq) (.ref j) (.ref k) σ Q X:=fun φ s v u G hv' hu'=>by
 obtain ⟨a,rfl,ha⟩:=hv'.of_ref
 obtain ⟨b,rfl,hb⟩:=hu'.of_ref
 obtain ⟨a',ha',kvs,ep,hd,hvs,_⟩:=G.get h1
 rw [ha] at ha';cases ha'
 obtain ⟨b',hb',kvs',ep',hd',hvs',_⟩:=G.get h2
 rw [hb] at hb';cases hb'
 refine dict_ne (G.notSys (List.mem_of_getElem? ha)) (G.notSys (List.mem_of_getElem? hb)) hd.dictOf hd'.dictOf (by exact qEP hu) (hits_of (es:=es) (kvs:=kvs) G (A:=A.in1) (by show A.units+1+100 < cLine;exact qCG hu) hvs' hvs hv) (Post.here G ⟨_,.bool_ _,?_⟩)
 rw [hvs.length,hvs'.length];exact q
theorem C_dict_copy {k:Nat} {es:List (Key×V)} {e:Option Nat} (hσ:σ[k]?=some (.dict es e)) (hl:es.length≤sizeLine) (q:Q (.ref σ.length) (σ++[.dict es none])):WC prog w B A (.type "dict") [.ref k] σ Q X:=fun φ s vs G FR hv=>by
 obtain ⟨v,rfl,hx⟩:=hv.one
 obtain ⟨a,rfl,ha⟩:=hx.of_ref
 obtain ⟨a',ha',kvs,ep,hd,hvs,_⟩:=G.get hσ
 rw [ha] at ha';cases ha'
 refine kt_call_dict (knd:=kk prog w) (G.notSys (List.mem_of_getElem? ha)) hd.dictOf (by rw [hvs.length];exact hl) fun h' hd' hs=>?_
 have hk:∀ b o,s.heap.get? b=some o→h'.get? b=some o:=fun b o eo=>hs.extBut b o (fun h=>by rw [h,get?_size] at eo;cases eo) (Heap.get?_push_of_some _ eo)
 obtain ⟨t,G',hv'⟩:=G.newDict (tk:=s.toks) hk hd' hvs
 exact ⟨_,_,t,G',_,hv',q⟩
theorem O_addl {j k:Nat} {xs ys:List V} (h1:σ[j]?=some (.list xs)) (h2:σ[k]?=some (.list ys)) (hl:xs.length+ys.length≤sizeLine) (q:Q (.ref σ.length) (σ++[.list (xs++ys)])):W2 prog w B A (binaryOp .Add) (.ref j) (.ref k) σ Q X:=fun φ s v u G hv hu=>by
 obtain ⟨a,rfl,ha⟩:=hv.of_ref
 obtain ⟨b,rfl,hb⟩:=hu.of_ref
 obtain ⟨a',ha',vs,n,ho,hvs⟩:=G.get h1
 rw [ha] at ha';cases ha'
 obtain ⟨b',hb',ws,m,ho',hws⟩:=G.get h2
 rw [hb] at hb';cases hb'
 have e1:vs.size=xs.length:=by simpa using hvs.length
 have e2:ws.size=ys.length:=by simpa using hws.length
 have hk:∀ (b:Addr) (o:Obj),s.heap.get? b=some o→(s.heap.push { cls:=.type "list",data:=.seq (vs++ws) }).get? b=some o:=fun b o e=>Heap.get?_push_of_some _ e
 have t₂:Step [] φ s.heap (φ++[s.heap.objs.size]) (s.heap.push { cls:=.type "list",data:=.seq (vs++ws) }):=Step.alloc (s':={ s with heap:=s.heap.push { cls:=.type "list",data:=.seq (vs++ws) } }) (get?_size _) hk
 refine P.add_list ho ho' ⟨φ++[s.heap.objs.size],σ++[.list (xs++ys)],t₂,G.alloc (s':={ s with heap:=_ }) (ob:=.list (xs++ys)) (get?_size _) hk ⟨vs++ws,0,Heap.get?_push_size _ rfl,?_⟩ G.fresh G.sizeNe,.ref σ.length,?_,q⟩ (by exact qC2 hl e1 e2)
 ·rw [Array.toList_append]
  exact (hvs.append hws).step G t₂
 ·rw [Val,← G.len]
  exact ⟨_,rfl,by simp⟩
noncomputable def turnD {ι:Type} (k:Nat) (es:List (Key×V)) (e:Option Nat) (ep:Nat) (D:ι→Prop) (l:ι→List (Str×V)) (f:ι→List AObj) (Q:Fl→List (Str×V)→List AObj→Prop):Fl→List (Str×V)→List AObj→Prop
 | .next,ρ',σ'=>∃ g,D g∧σ'=pin (f g) k es ep∧Sub (l g) ρ'
 | .cont,ρ',σ'=>∃ g,D g∧σ'=pin (f g) k es ep∧Sub (l g) ρ'
 | .brk,ρ',σ'=>σ'[k]?=some (.dict es (some ep))∧Q .next ρ' (σ'.set k (.dict es e))
 | .ret x,ρ',σ'=>σ'[k]?=some (.dict es (some ep))∧Q (.ret x) ρ' (σ'.set k (.dict es e))
theorem TD_next {ι:Type} {k:Nat} {es:List (Key×V)} {e:Option Nat} {ep:Nat} {D:ι→Prop} {l:ι→List (Str×V)} {f:ι→List AObj} {Q:Fl→List (Str×V)→List AObj→Prop} (g:ι) (hD:D g) (hσ:σ=pin (f g) k es ep) (hs:Sub (l g) ρ):turnD k es e ep D l f Q .next ρ σ:=⟨g,hD,hσ,hs⟩
theorem TD_ret {ι:Type} {k:Nat} {es:List (Key×V)} {e:Option Nat} {ep:Nat} {D:ι→Prop} {l:ι→List (Str×V)} {f:ι→List AObj} {Q:Fl→List (Str×V)→List AObj→Prop} {x:V} (hσ:σ[k]?=some (.dict es (some ep))) (q:Q (.ret x) ρ (σ.set k (.dict es e))):turnD k es e ep D l f Q (.ret x) ρ σ:=⟨hσ,q⟩
theorem pin_at {k:Nat} {es es₀:List (Key×V)} {e₀:Option Nat} {ep:Nat} (h:σ[k]?=some (.dict es₀ e₀)):(pin σ k es ep)[k]?=some (.dict es (some ep)):=by
 rw [pin,List.getElem?_set_self (List.getElem?_eq_some_iff.mp h).1]
theorem pin_set {k:Nat} {es:List (Key×V)} {e:Option Nat} {ep:Nat} (h:σ[k]?=some (.dict es e)):(pin σ k es ep).set k (.dict es e)=σ:=by
 rw [pin,List.set_set]
 obtain ⟨hk,he⟩:=List.getElem?_eq_some_iff.mp h
 rw [← he];simp
theorem pin_ne {j k:Nat} {es:List (Key×V)} {ep:Nat} (h:j≠k):(pin σ k es ep)[j]?=σ[j]?:=by rw [pin,List.getElem?_set_ne (Ne.symm h)]
theorem X_ford {x:Str} {px pos:Pos} {iter:Expr} {body rest:List Stmt} {Q:Fl→List (Str×V)→List AObj→Prop} {k:Nat} {es:List (Key×V)} {e:Option Nat} {ι:Type} (D:Nat→ι→Prop) (l:Nat→ι→List (Str×V)) (f:Nat→ι→List AObj) (g₀:ι)
  (hh:A.handled=none) (hσ:σ[k]?=some (.dict es e))
  (hi:∀ ep,WE prog w B A env iter ρ (pin σ k es ep) (fun v σ'=>v=.ref k∧σ'=pin σ k es ep) X)
  (h1:D 0 g₀) (h2:σ=f 0 g₀) (h4:Sub (l 0 g₀) ρ) (hf:∀ i g,D i g→(f i g)[k]?=some (.dict es e))
  (hb:∀ ep i g,i < es.length→D i g→WX prog w B A env body ((x,keyAt es i) :: l i g) (pin (f i g) k es ep) (turnD k es e ep (D (i+1)) (l (i+1)) (f (i+1)) (seqQ prog w B A env rest Q X)) (fun _ _ _ _=>False))
  (he:∀ g,D es.length g→WX prog w B A env rest (l es.length g) (f es.length g) Q X)
  (hx:env.kindOf x=some .local:=by kernel_rfl!)
  (hs:∀ v,foldedSetIterable iter env v=pure v:=by intro _;with_unfolding_all rfl) (hl:∀ it v,letOwnedTupleGo (.Name x px) it v=pure ():=by intro _ _;with_unfolding_all rfl) :
  WX prog w B A env (.For (.Name x px) iter body [] pos :: rest) ρ σ Q X:=by
 refine X_cons fun φ s G L=>?_
 obtain ⟨ep,hep,G',_⟩:=G.pin hσ
 have main:WX1 prog w B A env (.For (.Name x px) iter body [] pos) ρ (pin σ k es ep) (fun fl ρ' σ'=>σ'[k]?=some (.dict es (some ep))∧seqQ prog w B A env rest Q X fl ρ' (σ'.set k (.dict es e))) X:=by
  refine X_for ((hi ep).mono fun v σ' ⟨e1,e2⟩=>?_) (.inl hx) hs hl
  subst e1 e2
  refine ⟨pin σ k es ep,es.length,keyAt es,fun σ'=>σ'[k]?=some (.dict es (some ep)),_,.no,fun i ρ' σ'=>∃ g,D i g∧σ'=pin (f i g) k es ep∧Sub (l i g) ρ',It_dict (e:=none) hh (pin_at hσ),pin_at hσ,⟨g₀,h1,by rw [← h2],h4⟩,?_,?_⟩
  ·rintro i ρ₂ σ₂ hi' hC ⟨g,hD,rfl,hs'⟩
   refine X_weak hs'.both fun φ s G L=>wpAny_mono (hb ep i g hi' hD φ s G L) (fun v s₁ hx=>?_) fun _ _ x=>x
   obtain ⟨φ₁,σ₃,t₁,G₁,fl,ρ',hf',L₁,q⟩:=hx
   refine ⟨φ₁,σ₃,t₁,G₁,fl,ρ',hf',L₁,?_⟩
   cases fl with
   | next=>obtain ⟨g',q1,q2,q4⟩:=q;exact ⟨by rw [q2];exact pin_at (hf _ _ q1),g',q1,q2,q4⟩
   | cont=>obtain ⟨g',q1,q2,q4⟩:=q;exact ⟨by rw [q2];exact pin_at (hf _ _ q1),g',q1,q2,q4⟩
   | brk=>exact q
   | ret y=>exact q
  ·rintro ρ₂ σ₂ hC ⟨g,hD,rfl,hs'⟩
   refine ⟨hC,?_⟩
   rw [pin_set (hf _ _ hD)]
   exact X_weak hs' (he g hD)
 refine wpAny_mono (main φ s G' L) (fun v s₁ hx=>?_) fun _ _ x=>x
 obtain ⟨φ₁,σ₁,t₁,G₁,fl,ρ₁,hf',L₁,q1,q2⟩:=hx
 exact ⟨φ₁,σ₁.set k (.dict es e),t₁,G₁.unpin q1 hep,fl,ρ₁,hf',L₁,q2⟩
theorem E_slice_to {value upper:Expr} {p pos:Pos} (h:WE prog w B A env value ρ σ (fun x σ₁=>∃ y:Str,x=.str y∧y.length≤sizeLine∧WE prog w B A env upper ρ σ₁ (fun u σ₂=>∃ j:Int,u=.int j∧Q (.str (Txt.slice y none (some j))) σ₂) X) X)
  : WE prog w B A env (.Subscript value (.Slice none (some upper) none p) pos) ρ σ Q X:=fun φ s G L=>by
 refine Subscript_ ((h φ s G L).useV (.refl ..) fun a s₁ φ₁ σ₁ t₁ _ G₁ x hx ⟨y,ey,hy,h₁⟩=>?_)
 subst ey
 obtain ⟨t,rfl⟩:=hx.of_str
 refine wpAny_Slice ?_
 show wpAny _ _ (pure Value.none) _ _ _
 refine wpAny_pure ?_
 show wpAny _ _ (eval upper env) _ _ _
 refine (h₁ φ₁ s₁ G₁ (L.step G t₁)).useV t₁ fun b s₂ φ₂ σ₂ t₂ tt G₂ u hu ⟨j,ej,q⟩=>?_
 subst ej
 obtain ⟨t',rfl⟩:=hu.of_int
 show wpAny _ _ (pure Value.none) _ _ _
 refine wpAny_pure ?_
 have it:=SBH.sliceItem_ns (prog:=prog) (w:=w) (A:=A) (E:=Post prog w B [] φ s X) (P:=fun h=>∀ b o,s₂.heap.get? b=some o→h.get? b=some o) (s:=s₂) (x:=y) (t:=t) (j:=j) (uj:=t') (Q:=Post prog w B [] φ s (vQ Q))
  (fun h ob hk b o e=>Heap.get?_push_of_some _ (hk b o e)) (fun _ _ e=>e) (fun h' t'' kk hk=>⟨φ₂,σ₂,tt.trans0 (.of_keeps hk),G₂.keeps (s':={ s₂ with heap:=h',toks:=kk }) hk,_,.str_ _ _,q⟩) hy
 obtain ⟨T,id,h1,h2,h3⟩:=it
 exact tail_any (ops:=[_,_]) h2 h1 h3 rfl
theorem E_slice_from {value lower:Expr} {p pos:Pos} (h:WE prog w B A env value ρ σ (fun x σ₁=>∃ y:Str,x=.str y∧y.length≤sizeLine∧WE prog w B A env lower ρ σ₁ (fun u σ₂=>∃ j:Int,u=.int j∧Q (.str (Txt.slice y (some j) none)) σ₂) X) X)
  : WE prog w B A env (.Subscript value (.Slice (some lower) none none p) pos) ρ σ Q X:=fun φ s G L=>by
 refine Subscript_ ((h φ s G L).useV (.refl ..) fun a s₁ φ₁ σ₁ t₁ _ G₁ x hx ⟨y,ey,hy,h₁⟩=>?_)
 subst ey
 obtain ⟨t,rfl⟩:=hx.of_str
 refine wpAny_Slice ?_
 show wpAny _ _ (eval lower env) _ _ _
 refine (h₁ φ₁ s₁ G₁ (L.step G t₁)).useV t₁ fun b s₂ φ₂ σ₂ t₂ tt G₂ u hu ⟨j,ej,q⟩=>?_
 subst ej
 obtain ⟨t',rfl⟩:=hu.of_int
 show wpAny _ _ (pure Value.none) _ _ _
 refine wpAny_pure ?_
 show wpAny _ _ (pure Value.none) _ _ _
 refine wpAny_pure ?_
 have it:=SBH.sliceItem_sn (prog:=prog) (w:=w) (A:=A) (E:=Post prog w B [] φ s X) (P:=fun h=>∀ b o,s₂.heap.get? b=some o→h.get? b=some o) (s:=s₂) (x:=y) (t:=t) (i:=j) (ui:=t') (Q:=Post prog w B [] φ s (vQ Q))
  (fun h ob hk b o e=>Heap.get?_push_of_some _ (hk b o e)) (fun _ _ e=>e) (fun h' t'' kk hk=>⟨φ₂,σ₂,tt.trans0 (.of_keeps hk),G₂.keeps (s':={ s₂ with heap:=h',toks:=kk }) hk,_,.str_ _ _,q⟩) hy
 obtain ⟨T,id,h1,h2,h3⟩:=it
 exact tail_any (ops:=[_,_]) h2 h1 h3 rfl
theorem R_one0 {σ₀ j2:List AObj} {ob:AObj} (ho:ob.lt σ₀.length) (q:Q (.ref σ₀.length) (σ₀++[ob])):retQ σ₀ Q (.ret (.ref σ₀.length)) ρ (σ₀++ob :: j2):=by
 have r:=R_one (ρ:=ρ) (j1:=([]:List AObj)) (j2:=j2) (k:=σ₀.length) (by simp) ho q
 rw [List.append_nil] at r
 exact r
theorem set_prev {a b c:AObj}:(σ++[a]++[b]).set σ.length c=σ++[c]++[b]:=by rw [List.set_append_left _ _ (by simp),set_end]
theorem at_prev {a b:AObj}:(σ++[a]++[b])[σ.length]?=some a:=by rw [List.getElem?_append_left (by simp)];simp
theorem slice_to {x:Str} {j:Int} (h0:0≤j):Txt.slice x none (some j)=⟨(x.cps.toList.take j.toNat).toArray⟩:=by
 by_cases hj:j≤x.cps.toList.length
 ·have:=eq_of_beq (slice_closes_to (x:=x) ⟨h0,hj⟩)
  rw [this];simp
 ·have hlen:(x.length:Int) < j:=by simp [Str.length] at hj ⊢;omega
  unfold Txt.slice
  have hi:(Builtin.Str.strSliceIndices none (some j) 1 x.length).length=x.length:=by
   unfold Builtin.Str.strSliceIndices sliceRange
   have h1:¬ (j < 0):=by exact qAg h0
   have e2:max (0:Int) (min j (x.length:Int))=x.length:=by exact qGH hlen
   simp only [h1,if_false,e2,show ((1:Int) > 0)=True from by simp,if_true,List.length_map,List.length_range]
   split <;> omega
  rw [if_pos (by rw [hi];simp)]
  have:x.cps.toList.take j.toNat=x.cps.toList:=List.take_of_length_le (by simp [Str.length] at hlen ⊢;exact qHS hlen)
  rw [this]
theorem slice_from {x:Str} {j:Int} (h0:0≤j) (hj:j≤x.length):Txt.slice x (some j) none=⟨(x.cps.toList.drop j.toNat).toArray⟩:=by
 have:=eq_of_beq (slice_closes_fromL (x:=x) h0 hj rfl)
 rw [this]
 congr 2
 refine List.take_of_length_le ?_
 simp [Str.length] at hj ⊢;(exact qET)
theorem St.nodupKeys {k:Nat} {es:List (Key×V)} {e:Option Nat} (G:St prog w B φ σ s) (hσ:σ[k]?=some (.dict es e)):(es.map (·.1)).Nodup:=by
 obtain ⟨a,ha,kvs,ep,hd,hvs,_⟩:=G.get hσ
 obtain ⟨_,_,_,_,_,_,_,_,hn⟩:=hd.dictOf
 rw [← hvs.keys];exact hn
theorem X_keys {ss:List Stmt} {Q:Fl→List (Str×V)→List AObj→Prop} {k:Nat} {es:List (Key×V)} {e:Option Nat} (hσ:σ[k]?=some (.dict es e)) (h:(es.map (·.1)).Nodup→WX prog w B A env ss ρ σ Q X):WX prog w B A env ss ρ σ Q X:=fun φ s G L=>h (G.nodupKeys hσ) φ s G L
theorem at_get {es:List (Key×V)} (hn:(es.map (·.1)).Nodup) {i:Nat} (hi:i < es.length):at? es (es[i]).1=some (es[i]).2:=by
 induction es generalizing i with
 | nil=>simp at hi
 | cons p r ih =>
  cases i with
  | zero=>simp [at?]
  | succ i =>
   simp only [List.map_cons,List.nodup_cons] at hn
   have hi':i < r.length:=by simpa using hi
   have hne:p.1≠(r[i]).1:=fun e=>hn.1 (e ▸ List.mem_map.mpr ⟨r[i],List.getElem_mem _,rfl⟩)
   have:=ih hn.2 hi'
   simpa [at?,hne] using this
theorem keyAt_get {es:List (Key×V)} {i:Nat} (hi:i < es.length):keyAt es i=(es[i]).1.v:=by unfold keyAt;rw [List.getD_eq_getElem?_getD,List.getElem?_eq_getElem hi];rfl
theorem TyV.pin {k:Nat} {es:List (Key×V)} {e:Option Nat} {ep:Nat} {x:V} {T:String} (hσ:σ[k]?=some (.dict es e)) (h:TyV σ x T):TyV (Mine.pin σ k es ep) x T:=by
 cases h with
 | int=>exact .int _
 | bool=>exact .bool _
 | str=>exact .str _
 | none=>exact .none
 | tup=>exact .tup _
 | @list j xs h=>exact .list (xs:=xs) (by rw [pin_ne (fun e=>by rw [e,hσ] at h;cases h)];exact h)
 | @dict j es' e' h =>
  by_cases e:j=k
  ·subst e;exact .dict (pin_at hσ)
  ·exact .dict (es:=es') (e:=e') (by rw [pin_ne e];exact h)
end
end Mine
namespace Mine
open PySem PyProof.Rows
section
variable {κ:KeyKind} {xs ys:Array Keyed}
noncomputable def ky (κ:KeyKind) (p:Keyed):κ.α:=(κ.keyOf p.1).getD κ.dflt
noncomputable def ple (κ:KeyKind) (p q:Keyed):Prop:=κ.kle (ky κ p) (ky κ q)
theorem KK_at {i:Nat} {p:Keyed} (h:xs[i]?=some p):KK κ xs i=ky κ p:=by unfold KK;rw [h];rfl
noncomputable def Seg (κ:KeyKind) (xs:Array Keyed) (i j:Nat):Prop:=∀ p q,i≤p→p≤q→q < j→κ.kle (KK κ xs p) (KK κ xs q)
noncomputable def SegD (κ:KeyKind) (xs:Array Keyed) (i j:Nat):Prop:=∀ p q,i≤p→p≤q→q < j→κ.kle (KK κ xs q) (KK κ xs p)
theorem Seg.one (i:Nat):Seg κ xs i (i+1):=fun p q h1 h2 h3=>by
 have:p=q:=by exact qA4 h1 h2 h3
 subst this;exact KeyOrd.kle_refl _
theorem Seg.snoc {i j:Nat} (h:Seg κ xs i (i+j)) (hj:1≤j) (hk:κ.kle (KK κ xs (i+j - 1)) (KK κ xs (i+j))):Seg κ xs i (i+(j+1)):=fun p q h1 h2 h3=>by
 by_cases hq:q < i+j
 ·exact h p q h1 h2 hq
 ·have:q=i+j:=by exact qBn h3 hq
  subst this
  by_cases hp:p=i+j
  ·subst hp;exact KeyOrd.kle_refl _
  ·exact KeyOrd.kle_trans (h p (i+j - 1) h1 (by exact qBl h2 hp) (by exact qAV hj)) hk
theorem SegD.snoc {i j:Nat} (h:SegD κ xs i (i+j)) (hj:1≤j) (hk:κ.kle (KK κ xs (i+j)) (KK κ xs (i+j - 1))):SegD κ xs i (i+(j+1)):=fun p q h1 h2 h3=>by
 by_cases hq:q < i+j
 ·exact h p q h1 h2 hq
 ·have:q=i+j:=by exact qBn h3 hq
  subst this
  by_cases hp:p=i+j
  ·subst hp;exact KeyOrd.kle_refl _
  ·exact KeyOrd.kle_trans hk (h p (i+j - 1) h1 (by exact qBl h2 hp) (by exact qAV hj))
theorem Seg.congr {i j:Nat} (h:Seg κ xs i j) (e:∀ k,i≤k→k < j→ys[k]?=xs[k]?):Seg κ ys i j:=fun p q h1 h2 h3=>by
 rw [KK_congr (e p h1 (by exact qAk h2 h3)),KK_congr (e q (by exact qBP h1 h2) h3)]
 exact h p q h1 h2 h3
end
structure SB (a₀:Array Keyed) (st:SortSt):Prop where
 perm:(arrOf st).Perm a₀
 kind:kindOf st=oneType'
 failed:failedOf st=none
theorem SB.size {a₀:Array Keyed} {st:SortSt} (h:SB a₀ st):(arrOf st).size=a₀.size:=h.perm.size_eq
theorem SB.at {κ:KeyKind} {a₀:Array Keyed} {st:SortSt} (h:SB a₀ st) (h0:KeysOf κ a₀) {i:Nat} (hi:i < a₀.size) :
  ∃ p,(arrOf st)[i]?=some p∧κ.keyOf p.1=some (ky κ p)∧KK κ (arrOf st) i=ky κ p:=by
 have hi':i < (arrOf st).size:=by rw [h.size];exact hi
 have hm:(arrOf st)[i]∈a₀.toList:=(Array.perm_iff_toList_perm.mp h.perm).mem_iff.mp (by simp)
 obtain ⟨a,ha⟩:=h0 _ hm
 have e:(arrOf st)[i]?=some (arrOf st)[i]:=getElem?_pos _ i hi'
 refine ⟨(arrOf st)[i],e,?_,KK_at e⟩
 unfold ky;rw [ha];rfl
structure Mv (a₀:Array Keyed) (st st':SortSt) (i j:Nat):Prop where
 sb:SB a₀ st'
 pend:pendingOf st'=pendingOf st
 out:∀ k,k < i∨j≤k→(arrOf st')[k]?=(arrOf st)[k]?
theorem Mv.refl {a₀:Array Keyed} {st:SortSt} {i j:Nat} (h:SB a₀ st):Mv a₀ st st i j:=⟨h,rfl,fun _ _=>rfl⟩
theorem Mv.set {a₀:Array Keyed} {st st':SortSt} {i j:Nat} {xs:Array Keyed} (h:Mv a₀ st st' i j) (hp:xs.Perm (arrOf st')) (ho:∀ k,k < i∨j≤k→xs[k]?=(arrOf st')[k]?):Mv a₀ st (setArr st' xs) i j :=
 ⟨⟨hp.trans h.sb.perm,h.sb.kind,h.sb.failed⟩,h.pend,fun k hk=>(ho k hk).trans (h.out k hk)⟩
theorem Mv.mirror {a₀:Array Keyed} {st st':SortSt} {i j p q:Nat} (h:Mv a₀ st st' i j) (h1:i≤p) (h2:q≤j) (h3:q≤a₀.size):Mv a₀ st (setArr st' (mirror (arrOf st') p q ((q - p) / 2))) i j :=
 h.set (mirror_perm _ _ _ _) fun k hk=>by rw [getElem?_mirror_all (by rw [h.sb.size];exact h3),if_neg (by exact qGS h1 h2 hk)]
section
variable {prog:Program} {w:World} {A:Around} {E:Value→Shared→Prop} {s:Shared} {a₀:Array Keyed} {κ:KeyKind}
theorem wpS_lt2 {st:SortSt} {p q:Keyed} {Q:Option Bool→SortSt→Prop} (hO:κ.OneLt) (hk:kindOf st=oneType') (hp:κ.keyOf p.1=some (ky κ p)) (hq:κ.keyOf q.1=some (ky κ q)) (h:Q (some (κ.blt (ky κ p) (ky κ q))) st) :
  wpS (model prog w) A E s (lt' p q) Q st:=by
 rw [lt'_eq]
 refine wpS_bind (wpS_get ?_)
 rw [hk,keyLt'_oneType]
 refine wpS_bind (wpS_lift (wpAny_attempt (hO prog w A _ s p.1 q.1 _ _ hp hq ⟨rfl,?_⟩)))
 exact wpS_pure h
theorem wpS_elem {st:SortSt} {arr:Array Keyed} {i:Nat} {p:Keyed} {Q:Keyed→SortSt→Prop} (e:arr[i]?=some p) (h:Q p st):wpS (model prog w) A E s (elem' arr i) Q st:=by
 rw [elem'_eq,e];exact wpS_pure h
theorem wpS_ltB {st:SortSt} {i j:Nat} {Q:Option Bool→SortSt→Prop} (hO:κ.OneLt) (hB:SB a₀ st) (h0:KeysOf κ a₀) (hi:i < a₀.size) (hj:j < a₀.size)
  (h:Q (some (κ.blt (KK κ (arrOf st) i) (KK κ (arrOf st) j))) st):wpS (model prog w) A E s (ltAt' i j) Q st:=by
 obtain ⟨p,e1,ha,ka⟩:=hB.at h0 hi
 obtain ⟨q,e2,hb,kb⟩:=hB.at h0 hj
 rw [ka,kb] at h
 exact wpS_ltAtK hO hB.kind (p:=p.2) (q:=q.2) (x:=p.1) (y:=q.1) e1 e2 ha hb h
noncomputable def ascL (lo a nrem:Nat):StateT SortSt Sem AscSt :=
 forIn [a:nrem] ((none,a):AscSt) fun _ __s=>do
  let __x ← ltAt' (lo+__s.snd) (lo+__s.snd - 1)
  match __x with
  | some smaller=>if smaller=true then pure (ForInStep.done (none,__s.snd)) else pure (ForInStep.yield (none,__s.snd+1))
  | _=>pure (ForInStep.done (some none,__s.snd))
noncomputable def tailL (lo n nrem:Nat):StateT SortSt Sem (Option Nat):=do
 reverseSlice' lo (lo+n)
 let __s ← ascL lo n nrem
 match __s.fst with
 | some r=>pure r
 | none=>pure (some __s.snd)
noncomputable def descL (lo n nrem:Nat):StateT SortSt Sem DescSt :=
 forIn [n:nrem] ((none,n,0):DescSt) fun _ __s=>do
  let __x ← ltAt' (lo+__s.snd.fst) (lo+__s.snd.fst - 1)
  match __x with
  | some smaller =>
   if smaller=true then
    if __s.snd.snd > 0 then do
     reverseSlice' (lo+__s.snd.fst - (__s.snd.snd+1)) (lo+__s.snd.fst)
     pure (ForInStep.yield (none,__s.snd.fst+1,0))
    else pure (ForInStep.yield (none,__s.snd.fst+1,0))
   else do
    let __x ← ltAt' (lo+__s.snd.fst - 1) (lo+__s.snd.fst)
    match __x with
    | some larger =>
     if larger=true then pure (ForInStep.done (none,__s.snd.fst,__s.snd.snd))
     else pure (ForInStep.yield (none,__s.snd.fst+1,__s.snd.snd+1))
    | _=>pure (ForInStep.done (some none,__s.snd.fst,__s.snd.snd))
  | _=>pure (ForInStep.done (some none,__s.snd.fst,__s.snd.snd))
noncomputable def descPartL (lo n nrem:Nat):StateT SortSt Sem (Option Nat):=do
 liftM (rule "list.sort.descending-run")
 let __s ← descL lo (n+1) nrem
 match __s.fst with
 | some r=>pure r
 | none =>
  if __s.snd.snd > 0 then do
   reverseSlice' (lo+__s.snd.fst - (__s.snd.snd+1)) (lo+__s.snd.fst)
   tailL lo __s.snd.fst nrem
  else tailL lo __s.snd.fst nrem
theorem countRunL_eq (lo nrem:Nat):countRun' lo nrem=(do
  let __s ← ascL lo 1 nrem
  match __s.fst with
  | some r=>pure r
  | none =>
   if (__s.snd == nrem)=true then pure (some __s.snd)
   else if __s.snd > 1 then do
    let __x ← ltAt' lo (lo+__s.snd - 1)
    match __x with
    | some rose=>if rose=true then pure (some __s.snd) else do
      reverseSlice' lo (lo+__s.snd)
      descPartL lo __s.snd nrem
    | _=>pure none
   else descPartL lo __s.snd nrem):=by
 rw [countRun'_eq]
 unfold descPartL tailL descL ascL
 dsimp only
 congr 1
 funext __s
 obtain ⟨r,n⟩:=__s
 cases r with
 | some r=>rfl
 | none =>
  dsimp only
  split
  ·rfl
  ·split
   ·congr 1
    funext x
    cases x with
    | none=>rfl
    | some rose =>
     dsimp only
     split
     ·rfl
     ·congr 1
      funext _r
      congr 1;funext _u;congr 1;congr 1;funext s2;obtain ⟨r2,n2,q2⟩:=s2
      cases r2 with
      | some r2=>rfl
      | none =>
       dsimp only
       split
       ·congr 1;funext _v;congr 1;funext _w;congr 1;funext s3;obtain ⟨r3,n3⟩:=s3;cases r3 <;> rfl
       ·congr 1;funext _w;congr 1;funext s3;obtain ⟨r3,n3⟩:=s3;cases r3 <;> rfl
   ·congr 1;funext _u;congr 1;congr 1;funext s2;obtain ⟨r2,n2,q2⟩:=s2
    cases r2 with
    | some r2=>rfl
    | none =>
     dsimp only
     split
     ·congr 1;funext _v;congr 1;funext _w;congr 1;funext s3;obtain ⟨r3,n3⟩:=s3;cases r3 <;> rfl
     ·congr 1;funext _w;congr 1;funext s3;obtain ⟨r3,n3⟩:=s3;cases r3 <;> rfl
theorem wpS_ascL {st:SortSt} {lo a nrem:Nat} {Q:AscSt→SortSt→Prop} (hO:κ.OneLt) (h0:KeysOf κ a₀) (hn:lo+nrem≤a₀.size) (ha:1≤a) (han:a≤nrem) (hB:SB a₀ st)
  (hs:Seg κ (arrOf st) lo (lo+a))
  (h:∀ n,a≤n→n≤nrem→Seg κ (arrOf st) lo (lo+n)→(n=nrem∨κ.klt (KK κ (arrOf st) (lo+n)) (KK κ (arrOf st) (lo+n - 1)))→Q (none,n) st) :
  wpS (model prog w) A E s (ascL lo a nrem) Q st:=by
 unfold ascL
 refine wpS_forRange (I:=fun x c st'=>st'=st∧c=(none,x)∧Seg κ (arrOf st) lo (lo+x)) ?step ?fin ⟨rfl,rfl,hs⟩
 case fin =>
  rintro c st' ⟨rfl,rfl,hs'⟩
  rw [show max a nrem=nrem by exact qAs han] at hs' ⊢
  exact h nrem han (Nat.le_refl _) hs' (.inl rfl)
 case step =>
  rintro x c st' hax hxn ⟨rfl,rfl,hs'⟩
  dsimp only
  refine wpS_bind (wpS_ltB hO hB h0 (by exact qAD hn hxn) (by exact qAh hn hxn) ?_)
  cases hless:κ.blt (KK κ (arrOf st') (lo+x)) (KK κ (arrOf st') (lo+x - 1))
  case true =>
   simp only [if_true]
   exact wpS_pure (h x hax (by (exact Nat.le_of_lt ‹_›)) hs' (.inr hless))
  case false =>
   simp only [Bool.false_eq_true,if_false]
   exact wpS_pure ⟨rfl,rfl,hs'.snoc (by exact qAR ha hax) hless⟩
theorem wpS_tailL {st₀ st:SortSt} {lo n nrem:Nat} {Q:Option Nat→SortSt→Prop} (hO:κ.OneLt) (h0:KeysOf κ a₀) (hn:lo+nrem≤a₀.size) (h1:1≤n) (hnn:n≤nrem) (hB:Mv a₀ st₀ st lo (lo+nrem))
  (hs:SegD κ (arrOf st) lo (lo+n)) (h:∀ m st',Mv a₀ st₀ st' lo (lo+nrem)→1≤m→m≤nrem→Seg κ (arrOf st') lo (lo+m)→Q (some m) st') :
  wpS (model prog w) A E s (tailL lo n nrem) Q st:=by
 unfold tailL
 have hsz:lo+n≤(arrOf st).size:=by rw [hB.sb.size];(exact qAC hn hnn)
 refine wpS_bind (wpS_reverse ?_)
 have hB':=hB.mirror (p:=lo) (q:=lo+n) (Nat.le_refl _) (by exact qAK hnn) (by exact qAC hn hnn)
 refine wpS_bind (wpS_ascL hO h0 hn h1 hnn hB'.sb ?_ fun m hm1 hm2 hsm _=>wpS_pure (h m _ hB' (by exact qAR h1 hm1) hm2 hsm))
 intro i j hi hij hj
 show κ.kle (KK κ (mirror (arrOf st) lo (lo+n) ((lo+n - lo) / 2)) i) (KK κ (mirror (arrOf st) lo (lo+n) ((lo+n - lo) / 2)) j)
 rw [KK_mirror hsz,KK_mirror hsz,if_pos (by exact qCg hi hij hj),if_pos (by exact qFE hi hij hj)]
 exact hs _ _ (by exact qDP hj) (by exact qDa hij) (by exact qB7 h1 hi)
theorem wpS_descL {st₀ st:SortSt} {lo n nrem:Nat} {Q:DescSt→SortSt→Prop} (hO:κ.OneLt) (h0:KeysOf κ a₀) (hn:lo+nrem≤a₀.size) (h1:1≤n) (hnn:n≤nrem) (hB:Mv a₀ st₀ st lo (lo+nrem))
  (hs:SegD κ (arrOf st) lo (lo+n))
  (h:∀ m neq st',Mv a₀ st₀ st' lo (lo+nrem)→n≤m→m≤nrem→SegD κ (arrOf st') lo (lo+m)→neq+1≤m→(∀ i,lo+m - (neq+1)≤i→i < lo+m→KK κ (arrOf st') i=KK κ (arrOf st') (lo+m - 1))→Q (none,m,neq) st') :
  wpS (model prog w) A E s (descL lo n nrem) Q st:=by
 unfold descL
 refine wpS_forRange (I:=fun x c st'=>∃ neq,c=(none,x,neq)∧Mv a₀ st₀ st' lo (lo+nrem)∧SegD κ (arrOf st') lo (lo+x)∧neq+1≤x∧
   (∀ i,lo+x - (neq+1)≤i→i < lo+x→KK κ (arrOf st') i=KK κ (arrOf st') (lo+x - 1))) ?step ?fin ⟨0,rfl,hB,hs,by (assumption),fun i h1 h2=>by congr 1;exact qGr h1 h2⟩
 case fin =>
  rintro c st' ⟨neq,rfl,hB',hs',hq,he⟩
  rw [show max n nrem=nrem by exact qAs hnn] at hs' hq he ⊢
  exact h nrem neq st' hB' hnn (Nat.le_refl _) hs' hq he
 case step =>
  rintro x c st' hax hxn ⟨neq,rfl,hB',hs',hq,he⟩
  dsimp only
  have hsz:lo+x≤(arrOf st').size:=by rw [hB'.sb.size];(exact qBV hn hxn)
  refine wpS_bind (wpS_ltB hO hB'.sb h0 (by exact qAD hn hxn) (by exact qAh hn hxn) ?_)
  cases hless:κ.blt (KK κ (arrOf st') (lo+x)) (KK κ (arrOf st') (lo+x - 1))
  case true =>
   simp only [if_true]
   have step1:∀ xs:Array Keyed,(∀ k,KK κ xs k=KK κ (arrOf st') k)→SegD κ xs lo (lo+(x+1)):=by
    intro xs hk i j hi hij hj
    rw [hk,hk]
    exact hs'.snoc (by exact qAR h1 hax) (KeyOrd.kle_of_klt hless) i j hi hij hj
   by_cases hneq:neq > 0
   ·rw [if_pos hneq]
    refine wpS_bind (wpS_reverse (wpS_pure ⟨0,rfl,hB'.mirror (by exact qBI hq) (by exact qCC hxn) (by exact qBV hn hxn),step1 _ (KK_mirror_equal hsz he),by exact qBR,fun i h1 h2=>by congr 1;exact qBg h1 h2⟩))
   ·rw [if_neg hneq]
    exact wpS_pure ⟨0,rfl,hB',step1 _ (fun _=>rfl),by exact qBR,fun i h1 h2=>by congr 1;exact qBg h1 h2⟩
  case false =>
   simp only [Bool.false_eq_true,if_false]
   refine wpS_bind (wpS_ltB hO hB'.sb h0 (by exact qAh hn hxn) (by exact qAD hn hxn) ?_)
   cases hlarger:κ.blt (KK κ (arrOf st') (lo+x - 1)) (KK κ (arrOf st') (lo+x))
   case true =>
    simp only [if_true]
    exact wpS_pure (h x neq st' hB' hax (by (exact Nat.le_of_lt ‹_›)) hs' hq he)
   case false =>
    simp only [Bool.false_eq_true,if_false]
    have heqx:KK κ (arrOf st') (lo+x)=KK κ (arrOf st') (lo+x - 1):=KeyOrd.kle_antisymm hlarger hless
    refine wpS_pure ⟨neq+1,rfl,hB',hs'.snoc (by exact qAR h1 hax) hlarger,by exact qF2 hq,fun i h1 h2=>?_⟩
    rw [show lo+(x+1) - 1=lo+x by exact qDY]
    by_cases hix:i=lo+x
    ·subst hix;rfl
    ·rw [heqx];exact he i (by exact qGd h1) (by exact qGv h2 hix)
theorem wpS_descPartL {st₀ st:SortSt} {lo n nrem:Nat} {Q:Option Nat→SortSt→Prop} (hO:κ.OneLt) (h0:KeysOf κ a₀) (hn:lo+nrem≤a₀.size) (hnn:n+1≤nrem) (hB:Mv a₀ st₀ st lo (lo+nrem))
  (hs:SegD κ (arrOf st) lo (lo+(n+1))) (h:∀ m st',Mv a₀ st₀ st' lo (lo+nrem)→1≤m→m≤nrem→Seg κ (arrOf st') lo (lo+m)→Q (some m) st') :
  wpS (model prog w) A E s (descPartL lo n nrem) Q st:=by
 unfold descPartL
 refine wpS_bind (wpS_lift (wpAny_rule ⟨rfl,?_⟩))
 refine wpS_bind (wpS_descL hO h0 hn (by exact qCD) hnn hB hs fun m neq st' hB' hm1 hm2 hs' hq he=>?_)
 dsimp only
 have hsz:lo+m≤(arrOf st').size:=by rw [hB'.sb.size];(exact qAC hn hm2)
 by_cases hneq:neq > 0
 ·rw [if_pos hneq]
  refine wpS_bind (wpS_reverse (wpS_tailL hO h0 hn (by exact qAx hm1) hm2 (hB'.mirror (by exact qBI hq) (by exact qAK hm2) (by exact qAC hn hm2)) ?_ h))
  intro i j hi hij hj
  show κ.kle (KK κ (mirror (arrOf st') _ _ _) j) (KK κ (mirror (arrOf st') _ _ _) i)
  rw [KK_mirror_equal hsz he,KK_mirror_equal hsz he]
  exact hs' i j hi hij hj
 ·rw [if_neg hneq]
  exact wpS_tailL hO h0 hn (by exact qAx hm1) hm2 hB' hs' h
theorem wpS_countRunL {st:SortSt} {lo nrem:Nat} {Q:Option Nat→SortSt→Prop} (hO:κ.OneLt) (h0:KeysOf κ a₀) (hn:lo+nrem≤a₀.size) (h1:1≤nrem) (hB:SB a₀ st)
  (h:∀ m st',Mv a₀ st st' lo (lo+nrem)→1≤m→m≤nrem→Seg κ (arrOf st') lo (lo+m)→Q (some m) st') :
  wpS (model prog w) A E s (countRun' lo nrem) Q st:=by
 rw [countRunL_eq]
 refine wpS_bind (wpS_ascL hO h0 hn (Nat.le_refl 1) h1 hB (Seg.one lo) fun n hn1 hn2 hsn hor=>?_)
 dsimp only
 have hM:Mv a₀ st st lo (lo+nrem):=.refl hB
 by_cases hnn:n=nrem
 ·rw [if_pos (by simpa using hnn)]
  exact wpS_pure (h n st hM hn1 hn2 hsn)
 ·rw [if_neg (by simpa using hnn)]
  have hlt:κ.klt (KK κ (arrOf st) (lo+n)) (KK κ (arrOf st) (lo+n - 1)):=hor.resolve_left hnn
  by_cases hgt:n > 1
  ·rw [if_pos hgt]
   refine wpS_bind (wpS_ltB hO hB h0 (by exact qGB hn h1) (by exact qDv hn h1 hn2) ?_)
   cases hrose:κ.blt (KK κ (arrOf st) lo) (KK κ (arrOf st) (lo+n - 1))
   case true =>
    simp only [if_true]
    exact wpS_pure (h n st hM hn1 hn2 hsn)
   case false =>
    simp only [Bool.false_eq_true,if_false]
    have hsz:lo+n≤(arrOf st).size:=by rw [hB.size];(exact qAC hn hn2)
    have hall:∀ k,lo≤k→k < lo+n→KK κ (arrOf st) k=KK κ (arrOf st) (lo+n - 1):=by
     intro k hk0 hk
     have a1:=hsn lo k (by exact qAj) hk0 hk
     have a2:=hsn k (lo+n - 1) (by (assumption)) (by exact qEd hk) (by exact qAV hn1)
     exact KeyOrd.kle_antisymm a2 (KeyOrd.kle_trans hrose a1)
    refine wpS_bind (wpS_reverse (wpS_descPartL hO h0 hn (by exact qFH hn2 hnn) (hM.mirror (by exact qAj) (by exact qAK hn2) (by exact qAC hn hn2)) ?_ h))
    have hD:SegD κ (arrOf st) lo (lo+(n+1)):=SegD.snoc (fun i j hi hij hj=>by rw [hall i hi (by exact qEe hij hj),hall j (by exact qBP hi hij) hj];exact KeyOrd.kle_refl _) (by (assumption)) (KeyOrd.kle_of_klt hlt)
    intro i j hi hij hj
    show κ.kle (KK κ (mirror (arrOf st) _ _ _) j) (KK κ (mirror (arrOf st) _ _ _) i)
    rw [KK_mirror_equal hsz hall,KK_mirror_equal hsz hall]
    exact hD i j hi hij hj
  ·rw [if_neg hgt]
   have hn1':n=1:=by exact qHp hn1 hgt
   subst hn1'
   refine wpS_descPartL hO h0 hn (by exact qG3 h1 hnn) hM ?_ h
   refine SegD.snoc (fun i j hi hij hj=>?_) (by (assumption)) (KeyOrd.kle_of_klt hlt)
   have:i=j:=by exact qA4 hi hij hj
   subst this;exact KeyOrd.kle_refl _
theorem wpS_binarySortL {st:SortSt} {lo n ok:Nat} {Q:Bool→SortSt→Prop} (hO:κ.OneLt) (h0:KeysOf κ a₀) (hn:lo+n≤a₀.size) (hok:ok≤n) (hB:SB a₀ st) (hs:Seg κ (arrOf st) lo (lo+ok))
  (h:∀ st',Mv a₀ st st' lo (lo+n)→Seg κ (arrOf st') lo (lo+n)→Q true st'):wpS (model prog w) A E s (binarySort' lo n ok) Q st:=by
 rw [binarySort'_eq]
 refine wpS_bind (wpS_mono (wpS_forRange (I:=fun k c st'=>c=(none,())∧Mv a₀ st st' lo (lo+n)∧Seg κ (arrOf st') lo (lo+min k n))
  (Q:=fun c st'=>c=(none,())∧Mv a₀ st st' lo (lo+n)∧Seg κ (arrOf st') lo (lo+n)) ?step ?fin ?init) ?post)
 case post =>
  rintro c st' ⟨rfl,hB',hs'⟩
  exact wpS_pure (h st' hB' hs')
 case init =>
  refine ⟨rfl,.refl hB,fun i j hi hij hj=>?_⟩
  by_cases h1:ok=0
  ·have:i=j:=by exact qG1 hi hij hj h1
   subst this;exact KeyOrd.kle_refl _
  ·exact hs i j hi hij (by exact qGR hj h1)
 case fin =>
  rintro c st' ⟨hc,hB',hs'⟩
  refine ⟨hc,hB',?_⟩
  rwa [show min (max (max ok 1) n) n=n by exact qFF] at hs'
 case step =>
  rintro k c st' hak hkn ⟨rfl,hB',hs'⟩
  rw [show min k n=k by exact qDd hkn] at hs'
  have hk:lo+k < a₀.size:=by exact qAD hn hkn
  refine wpS_bind (wpS_mono (wpS_forRange (I:=fun x c st''=>st''=st'∧∃ l r,c=(none,l,r)∧l≤r∧r≤k∧r+x≤l+k∧
    (∀ i,lo≤i→i < lo+l→κ.kle (KK κ (arrOf st') i) (KK κ (arrOf st') (lo+k)))∧(∀ i,lo+r≤i→i < lo+k→κ.klt (KK κ (arrOf st') (lo+k)) (KK κ (arrOf st') i)))
   (Q:=fun c st''=>st''=st'∧∃ l r,c=(none,l,r)∧l≤k∧
    (∀ i,lo≤i→i < lo+l→κ.kle (KK κ (arrOf st') i) (KK κ (arrOf st') (lo+k)))∧(∀ i,lo+l≤i→i < lo+k→κ.klt (KK κ (arrOf st') (lo+k)) (KK κ (arrOf st') i))) ?istep ?ifin ?iinit) ?ipost)
  case iinit=>exact ⟨rfl,0,k,rfl,Nat.zero_le _,Nat.le_refl _,Nat.le_of_eq (Nat.add_comm k 0),fun i hi h1=>absurd h1 (Nat.not_lt.mpr hi),fun i h1 h2=>absurd h2 (Nat.not_lt.mpr h1)⟩
  case ifin =>
   rintro c st'' ⟨rfl,l,r,rfl,hlr,hrk,hm,hlo,hhi⟩
   have:l=r:=by exact qBO hlr hm
   subst this
   exact ⟨rfl,l,l,rfl,hrk,hlo,hhi⟩
  case istep =>
   rintro x c st'' _ hxk ⟨rfl,l,r,rfl,hlr,hrk,hm,hlo,hhi⟩
   dsimp only
   by_cases hge:l≥r
   ·rw [if_pos hge]
    have:l=r:=by exact qAe hlr hge
    subst this
    exact wpS_pure ⟨rfl,l,l,rfl,hrk,hlo,hhi⟩
   ·rw [if_neg hge]
    have m1:l≤(l+r) / 2:=by exact qCW hlr
    have m2:(l+r) / 2 < r:=by exact qGC hge
    generalize (l+r) / 2=m at m1 m2
    have m3:m < k:=Nat.lt_of_lt_of_le m2 hrk
    refine wpS_bind (wpS_ltB hO hB'.sb h0 hk (Nat.lt_trans (Nat.add_lt_add_left m3 lo) hk) ?_)
    cases hless:κ.blt (KK κ (arrOf st'') (lo+k)) (KK κ (arrOf st'') (lo+m))
    case true =>
     simp only [if_true]
     refine wpS_pure ⟨rfl,l,m,rfl,m1,Nat.le_of_lt m3,by exact qBS hm m2,hlo,fun i h1 h2=>?_⟩
     exact KeyOrd.klt_of_klt_of_kle hless (hs' _ _ (Nat.le_add_right _ _) h1 h2)
    case false =>
     simp only [Bool.false_eq_true,if_false]
     refine wpS_pure ⟨rfl,m+1,r,rfl,m2,hrk,by exact qBX hm m1,fun i h0 h1=>?_,hhi⟩
     exact KeyOrd.kle_trans (hs' i (lo+m) h0 (Nat.le_of_lt_succ h1) (Nat.add_lt_add_left m3 lo)) (show κ.kle _ _ from hless)
  case ipost =>
   rintro c st'' ⟨rfl,l,r,rfl,hlk,hlo,hhi⟩
   show wpS _ _ _ _ (do moveDown' (lo+k) (lo+l);pure (ForInStep.yield (none,()))) _ _
   rw [moveDown'_eq]
   have hks:lo+k < (arrOf st'').size:=by rw [hB'.sb.size];exact hk
   refine wpS_bind (wpS_modify (wpS_pure ⟨rfl,hB'.set (bubble_perm _ _ _) fun i hi=>?_,?_⟩))
   ·rw [getElem?_bubble hks _ (by exact qAa),if_neg (by exact qHf hkn hi),if_neg (by exact qFt hkn hi)]
   rw [show min (k+1) n=k+1 by exact qCX hkn]
   intro i j hi hij hj
   show κ.kle (KK κ (bubble (arrOf st'') (lo+k) (lo+k - (lo+l))) i) (KK κ (bubble (arrOf st'') (lo+k) (lo+k - (lo+l))) j)
   rw [KK_bubble hks (by exact qAa),KK_bubble hks (by exact qAa),show lo+k - (lo+k - (lo+l))=lo+l by exact qC5 hlk]
   repeat' split
   all_goals first
    | (exfalso;lia)
    | exact KeyOrd.kle_refl _
    | exact hlo _ (by (assumption)) (by exact qGJ hij hj ‹_› ‹_›)
    | exact KeyOrd.kle_of_klt (hhi _ (by exact qHh hij ‹_› ‹_›) (by exact qHM hak hj))
    | exact hs' _ _ (by lia) (by lia) (by lia)
end
end Mine
namespace Mine
open PySem PyProof.Rows
noncomputable def gallop':Bool→Keyed→Array Keyed→Nat→Nat→Nat→StateT SortSt Sem (Option Nat):=sortPriv% PySem.Builtin.gallop
noncomputable def setMinGallop':Nat→StateT SortSt Sem Unit:=sortPriv% PySem.Builtin.setMinGallop
theorem setMinGallop'_eq (g:Nat):setMinGallop' g=modify fun s=>SortSt.mk' (kindOf s) (arrOf s) (pendingOf s) g (failedOf s):=rfl
noncomputable def beyond' (left:Bool) (key:Keyed) (arr:Array Keyed) (base i:Nat):StateT SortSt Sem (Option Bool):=do
 let x ← elem' arr (base+i)
 if left=true then lt' x key else do
  let r ← lt' key x
  pure (Option.map (fun x=>!x) r)
noncomputable abbrev GSt:=Option (Option Nat)×Nat×Nat
noncomputable def gUp (bey:Nat→StateT SortSt Sem (Option Bool)) (n hint maxofs:Nat):StateT SortSt Sem GSt :=
 forIn [0:n] ((none,0,1):GSt) fun _ c =>
  if c.2.2≥maxofs then pure (ForInStep.done (none,c.2.1,c.2.2)) else do
   let x ← bey (hint+c.2.2)
   match x with
   | some more=>if (!more)=true then pure (ForInStep.done (none,c.2.1,c.2.2)) else pure (ForInStep.yield (none,c.2.2,2 * c.2.2+1))
   | _=>pure (ForInStep.done (some none,c.2.1,c.2.2))
noncomputable def gDown (bey:Nat→StateT SortSt Sem (Option Bool)) (n hint maxofs:Nat):StateT SortSt Sem GSt :=
 forIn [0:n] ((none,0,1):GSt) fun _ c =>
  if c.2.2≥maxofs then pure (ForInStep.done (none,c.2.1,c.2.2)) else do
   let x ← bey (hint - c.2.2)
   match x with
   | some found=>if found=true then pure (ForInStep.done (none,c.2.1,c.2.2)) else pure (ForInStep.yield (none,c.2.2,2 * c.2.2+1))
   | _=>pure (ForInStep.done (some none,c.2.1,c.2.2))
noncomputable def gBin (bey:Nat→StateT SortSt Sem (Option Bool)) (n lo hi:Nat):StateT SortSt Sem (Option Nat):=do
 let c ← (forIn [0:n] ((none,lo,hi):GSt) fun _ c =>
  if c.2.1≥c.2.2 then pure (ForInStep.done (none,c.2.1,c.2.2)) else do
   let x ← bey (c.2.1+(c.2.2 - c.2.1) / 2)
   match x with
   | some more=>if more=true then pure (ForInStep.yield (none,c.2.1+(c.2.2 - c.2.1) / 2+1,c.2.2)) else pure (ForInStep.yield (none,c.2.1,c.2.1+(c.2.2 - c.2.1) / 2))
   | _=>pure (ForInStep.done (some none,c.2.1,c.2.2)))
 Break.runK.match_1 (fun _=>StateT SortSt Sem (Option Nat)) c.1 (fun r=>pure r) fun _=>pure (some c.2.2)
theorem gallop'_eq (left:Bool) (key:Keyed) (arr:Array Keyed) (base n hint:Nat):gallop' left key arr base n hint=(do
  let x ← beyond' left key arr base hint
  match x with
  | some right =>
   if right=true then do
    let c ← gUp (beyond' left key arr base) n hint (n - hint)
    Break.runK.match_1 (fun _=>StateT SortSt Sem (Option Nat)) c.1 (fun r=>pure r) fun _=>gBin (beyond' left key arr base) n (hint+c.2.1+1) (hint+min c.2.2 (n - hint))
   else do
    let c ← gDown (beyond' left key arr base) n hint (hint+1)
    Break.runK.match_1 (fun _=>StateT SortSt Sem (Option Nat)) c.1 (fun r=>pure r) fun _=>gBin (beyond' left key arr base) n (hint+1 - min c.2.2 (hint+1)) (hint - c.2.1)
  | _=>pure none):=rfl
section
variable {prog:Program} {w:World} {A:Around} {E:Value→Shared→Prop} {s:Shared} {κ:KeyKind}
theorem wpS_gBin {st:SortSt} {n lo hi:Nat} {B:Nat→Bool} {bey:Nat→StateT SortSt Sem (Option Bool)} {Q:Option Nat→SortSt→Prop}
  (hb:∀ i,i < n→∀ {R:Option Bool→SortSt→Prop},R (some (B i)) st→wpS (model prog w) A E s (bey i) R st)
  (hm:∀ i j,i≤j→j < n→B j=true→B i=true) (h1:lo≤hi) (h2:hi≤n) (hlo:∀ i,i < lo→B i=true) (hhi:∀ i,hi≤i→i < n→B i=false)
  (h:∀ k,k≤n→(∀ i,i < k→B i=true)→(∀ i,k≤i→i < n→B i=false)→Q (some k) st) :
  wpS (model prog w) A E s (gBin bey n lo hi) Q st:=by
 unfold gBin
 refine wpS_bind (wpS_mono (wpS_forRange (I:=fun x c st'=>st'=st∧∃ l r,c=(none,l,r)∧l≤r∧r≤n∧r+x≤l+n∧(∀ i,i < l→B i=true)∧(∀ i,r≤i→i < n→B i=false))
  (Q:=fun c st'=>st'=st∧∃ l r,c=(none,l,r)∧r≤n∧(∀ i,i < r→B i=true)∧(∀ i,r≤i→i < n→B i=false)) ?step ?fin ⟨rfl,lo,hi,rfl,h1,h2,by exact qHi h2,hlo,hhi⟩) ?post)
 case post =>
  rintro c st' ⟨rfl,l,r,rfl,h3,h4,h5⟩
  exact wpS_pure (h r h3 h4 h5)
 case fin =>
  rintro c st' ⟨rfl,l,r,rfl,h3,h4,h5,h6,h7⟩
  have:l=r:=by exact qBO h3 h5
  subst this
  exact ⟨rfl,l,l,rfl,h4,h6,h7⟩
 case step =>
  rintro x c st' _ hx ⟨rfl,l,r,rfl,h3,h4,h5,h6,h7⟩
  dsimp only
  by_cases hge:l≥r
  ·rw [if_pos hge]
   have:l=r:=by exact qAe h3 hge
   subst this
   exact wpS_pure ⟨rfl,l,l,rfl,h4,h6,h7⟩
  ·rw [if_neg hge]
   have m1:l≤l+(r - l) / 2:=Nat.le_add_right _ _
   have m2:l+(r - l) / 2 < r:=by exact qEI hge
   generalize l+(r - l) / 2=m at m1 m2
   have m3:m < n:=Nat.lt_of_lt_of_le m2 h4
   refine wpS_bind (hb _ m3 ?_)
   cases hB:B m with
   | true =>
    simp only [if_true]
    exact wpS_pure ⟨rfl,_,_,rfl,m2,h4,by exact qBX h5 m1,fun i hi=>hm i _ (Nat.le_of_lt_succ hi) m3 hB,h7⟩
   | false =>
    simp only [Bool.false_eq_true,if_false]
    refine wpS_pure ⟨rfl,_,_,rfl,m1,Nat.le_of_lt m3,by exact qBS h5 m2,h6,fun i hi1 hi2=>?_⟩
    cases hBi:B i with
    | false=>rfl
    | true=>rw [hm _ i hi1 hi2 hBi] at hB;cases hB
theorem wpS_gallop {st:SortSt} {left:Bool} {key:Keyed} {arr:Array Keyed} {base n hint:Nat} {B:Nat→Bool} {Q:Option Nat→SortSt→Prop}
  (hb:∀ i,i < n→∀ {R:Option Bool→SortSt→Prop},R (some (B i)) st→wpS (model prog w) A E s (beyond' left key arr base i) R st)
  (hm:∀ i j,i≤j→j < n→B j=true→B i=true) (hh:hint < n)
  (h:∀ k,k≤n→(∀ i,i < k→B i=true)→(∀ i,k≤i→i < n→B i=false)→Q (some k) st) :
  wpS (model prog w) A E s (gallop' left key arr base n hint) Q st:=by
 have hm':∀ i j,i≤j→j < n→B i=false→B j=false:=fun i j h1 h2 h3=>by
  cases hj:B j with
  | false=>rfl
  | true=>rw [hm i j h1 h2 hj] at h3;cases h3
 rw [gallop'_eq]
 refine wpS_bind (hb hint hh ?_)
 cases hB:B hint with
 | true =>
  simp only [if_true]
  refine wpS_bind ?_
  unfold gUp
  have fin:∀ l o,l < o→hint+l < n→B (hint+l)=true→(n - hint≤o∨B (hint+o)=false)→wpS (model prog w) A E s (gBin (beyond' left key arr base) n (hint+l+1) (hint+min o (n - hint))) Q st:=fun l o h1 h3 h4 h5 =>
   wpS_gBin hb hm (by exact qFA h1 h3) (by exact qGW hh) (fun i hi=>hm i _ (Nat.le_of_lt_succ hi) h3 h4) (fun i h6 h7=>by
    rcases h5 with h5 | h5
    ·rw [Nat.min_eq_right h5,Nat.add_sub_cancel' (Nat.le_of_lt hh)] at h6;exact absurd h7 (Nat.not_lt.mpr h6)
    ·by_cases h8:o≤n - hint
     ·rw [Nat.min_eq_left h8] at h6;exact hm' (hint+o) i h6 h7 h5
     ·rw [Nat.min_eq_right (Nat.le_of_not_le h8),Nat.add_sub_cancel' (Nat.le_of_lt hh)] at h6;exact absurd h7 (Nat.not_lt.mpr h6)) h
  refine wpS_forRange (I:=fun x c st'=>st'=st∧∃ l o,c=(none,l,o)∧l < o∧x+1≤o∧hint+l < n∧B (hint+l)=true) ?step ?fin ⟨rfl,0,1,rfl,Nat.one_pos,Nat.le_refl _,hh,hB⟩
  case fin =>
   rintro c st' ⟨rfl,l,o,rfl,h1,h2,h3,h4⟩
   exact fin l o h1 h3 h4 (.inl (by exact qDl h2))
  case step =>
   rintro x c st' _ hx ⟨rfl,l,o,rfl,h1,h2,h3,h4⟩
   dsimp only
   by_cases hge:o≥n - hint
   ·rw [if_pos hge]
    exact wpS_pure (fin l o h1 h3 h4 (.inl hge))
   ·rw [if_neg hge]
    have ho:hint+o < n:=by exact qEH hge
    refine wpS_bind (hb _ ho ?_)
    cases hBo:B (hint+o) with
    | true =>
     simp only [Bool.not_true,Bool.false_eq_true,if_false]
     exact wpS_pure ⟨rfl,_,_,rfl,by exact qBm,by exact qBt h2,ho,hBo⟩
    | false =>
     simp only [Bool.not_false,if_true]
     exact wpS_pure (fin l o h1 h3 h4 (.inr hBo))
 | false =>
  simp only [Bool.false_eq_true,if_false]
  refine wpS_bind ?_
  unfold gDown
  have fin:∀ l o,l < o→l≤hint→B (hint - l)=false→(hint+1≤o∨B (hint - o)=true)→wpS (model prog w) A E s (gBin (beyond' left key arr base) n (hint+1 - min o (hint+1)) (hint - l)) Q st:=fun l o h1 h3 h4 h5 =>
   wpS_gBin hb hm (by exact qFl h1) (by exact qEj hh) (fun i hi=>by
    rcases h5 with h5 | h5
    ·rw [Nat.min_eq_right h5,Nat.sub_self] at hi;exact absurd hi (Nat.not_lt_zero _)
    ·exact hm i _ (by exact qDw hi) (by exact qBT hh) h5) (fun i h6 h7=>hm' _ i h6 h7 h4) h
  refine wpS_forRange (I:=fun x c st'=>st'=st∧∃ l o,c=(none,l,o)∧l < o∧x+1≤o∧l≤hint∧B (hint - l)=false) ?step ?fin ⟨rfl,0,1,rfl,Nat.one_pos,Nat.le_refl _,Nat.zero_le _,hB⟩
  case fin =>
   rintro c st' ⟨rfl,l,o,rfl,h1,h2,h3,h4⟩
   exact fin l o h1 h3 h4 (.inl (by exact qF3 hh h2))
  case step =>
   rintro x c st' _ hx ⟨rfl,l,o,rfl,h1,h2,h3,h4⟩
   dsimp only
   by_cases hge:o≥hint+1
   ·rw [if_pos hge]
    exact wpS_pure (fin l o h1 h3 h4 (.inl hge))
   ·rw [if_neg hge]
    refine wpS_bind (hb _ (by exact qBT hh) ?_)
    cases hBo:B (hint - o) with
    | true =>
     simp only [if_true]
     exact wpS_pure (fin l o h1 h3 h4 (.inr hBo))
    | false =>
     simp only [Bool.false_eq_true,if_false]
     exact wpS_pure ⟨rfl,_,_,rfl,by exact qBm,by exact qBt h2,by exact qDo hge,hBo⟩
noncomputable def AllK (κ:KeyKind) (xs:Array Keyed):Prop:=∀ p,p∈xs.toList→κ.keyOf p.1=some (ky κ p)
theorem AllK.of {xs:Array Keyed} (h:KeysOf κ xs):AllK κ xs:=fun p hp=>by
 obtain ⟨a,ha⟩:=h p hp
 unfold ky;rw [ha];rfl
theorem AllK.at {xs:Array Keyed} (h:AllK κ xs) {i:Nat} (hi:i < xs.size):∃ p,xs[i]?=some p∧κ.keyOf p.1=some (ky κ p)∧KK κ xs i=ky κ p:=by
 have e:xs[i]?=some xs[i]:=getElem?_pos _ i hi
 exact ⟨xs[i],e,h _ (by simp),KK_at e⟩
theorem wpS_gallopR {st:SortSt} {key:Keyed} {arr:Array Keyed} {base n hint:Nat} {Q:Option Nat→SortSt→Prop} (hO:κ.OneLt) (hk:kindOf st=oneType') (ha:AllK κ arr) (hsz:base+n≤arr.size) (hkey:κ.keyOf key.1=some (ky κ key)) (hs:Seg κ arr base (base+n)) (hh:hint < n)
  (h:∀ k,k≤n→(∀ i,i < k→κ.kle (KK κ arr (base+i)) (ky κ key))→(∀ i,k≤i→i < n→κ.klt (ky κ key) (KK κ arr (base+i)))→Q (some k) st) :
  wpS (model prog w) A E s (gallop' false key arr base n hint) Q st:=by
 refine wpS_gallop (B:=fun i=>!(κ.blt (ky κ key) (KK κ arr (base+i)))) (fun i hi R hR=>?_) (fun i j h1 h2 h3=>?_) hh fun k h1 h2 h3=>h k h1 (fun i hi=>?_) fun i h4 h5=>?_
 ·obtain ⟨p,e,hp,hK⟩:=ha.at (i:=base+i) (by exact qAD hsz hi)
  unfold beyond'
  refine wpS_bind (wpS_elem e ?_)
  simp only [Bool.false_eq_true,if_false]
  refine wpS_bind (wpS_lt2 hO hk hkey hp (wpS_pure ?_))
  rw [hK] at hR
  exact hR
 ·have h3':κ.kle (KK κ arr (base+j)) (ky κ key):=by simpa [KeyOrd.kle] using h3
  have:κ.kle (KK κ arr (base+i)) (ky κ key):=KeyOrd.kle_trans (hs _ _ (by exact qAE) (by exact qAK h1) (by exact qAm h2)) h3'
  simpa [KeyOrd.kle] using this
 ·simpa [KeyOrd.kle] using h2 i hi
 ·simpa [KeyOrd.klt] using h3 i h4 h5
theorem wpS_gallopL {st:SortSt} {key:Keyed} {arr:Array Keyed} {base n hint:Nat} {Q:Option Nat→SortSt→Prop} (hO:κ.OneLt) (hk:kindOf st=oneType') (ha:AllK κ arr) (hsz:base+n≤arr.size) (hkey:κ.keyOf key.1=some (ky κ key)) (hs:Seg κ arr base (base+n)) (hh:hint < n)
  (h:∀ k,k≤n→(∀ i,i < k→κ.klt (KK κ arr (base+i)) (ky κ key))→(∀ i,k≤i→i < n→κ.kle (ky κ key) (KK κ arr (base+i)))→Q (some k) st) :
  wpS (model prog w) A E s (gallop' true key arr base n hint) Q st:=by
 refine wpS_gallop (B:=fun i=>κ.blt (KK κ arr (base+i)) (ky κ key)) (fun i hi R hR=>?_) (fun i j h1 h2 h3=>?_) hh fun k h1 h2 h3=>h k h1 h2 h3
 ·obtain ⟨p,e,hp,hK⟩:=ha.at (i:=base+i) (by exact qAD hsz hi)
  unfold beyond'
  refine wpS_bind (wpS_elem e ?_)
  simp only [if_true]
  refine wpS_lt2 hO hk hp hkey ?_
  rw [hK] at hR
  exact hR
 ·exact KeyOrd.klt_of_kle_of_klt (hs _ _ (by exact qAE) (by exact qAK h1) (by exact qAm h2)) h3
end
structure Gs (st st':SortSt):Prop where
 kind:kindOf st'=kindOf st
 arr:arrOf st'=arrOf st
 pend:pendingOf st'=pendingOf st
 failed:failedOf st'=failedOf st
theorem Gs.refl (st:SortSt):Gs st st:=⟨rfl,rfl,rfl,rfl⟩
theorem Gs.set {st st':SortSt} (h:Gs st st') (g:Nat):Gs st (SortSt.mk' (kindOf st') (arrOf st') (pendingOf st') g (failedOf st')):=⟨h.kind,h.arr,h.pend,h.failed⟩
section
variable {κ:KeyKind} {T O K RA RB:List Keyed} {a b:Array Keyed}
theorem ple_trans {x y z:Keyed} (h1:ple κ x y) (h2:ple κ y z):ple κ x z:=KeyOrd.kle_trans h1 h2
structure MInv (κ:KeyKind) (T O RA RB:List Keyed):Prop where
 perm:(O++RA++RB).Perm T
 pa:(O++RA).Pairwise (ple κ)
 pb:(O++RB).Pairwise (ple κ)
theorem MInv.moveA (h:MInv κ T O (K++RA) RB) (hk:∀ x∈K,∀ y∈RB,ple κ x y):MInv κ T (O++K) RA RB:=by
 have h1:=List.pairwise_append.mp h.pa
 have h2:=List.pairwise_append.mp h.pb
 refine ⟨by simpa [List.append_assoc] using h.perm,by rw [List.append_assoc];exact h.pa,List.pairwise_append.mpr ⟨?_,h2.2.1,fun x hx y hy=>?_⟩⟩
 ·exact h.pa.sublist (List.Sublist.append_left (List.sublist_append_left K RA) O)
 ·rcases List.mem_append.mp hx with hx | hx
  ·exact h2.2.2 x hx y hy
  ·exact hk x hx y hy
theorem MInv.moveB (h:MInv κ T O RA (K++RB)) (hk:∀ x∈K,∀ y∈RA,ple κ x y):MInv κ T (O++K) RA RB:=by
 have h1:=List.pairwise_append.mp h.pa
 have h2:=List.pairwise_append.mp h.pb
 refine ⟨List.Perm.trans ?_ h.perm,List.pairwise_append.mpr ⟨?_,h1.2.1,fun x hx y hy=>?_⟩,by rw [List.append_assoc];exact h.pb⟩
 ·rw [List.append_assoc,List.append_assoc,List.append_assoc]
  exact List.Perm.append_left O (List.perm_append_comm_assoc K RA RB)
 ·exact h.pb.sublist (List.Sublist.append_left (List.sublist_append_left K RB) O)
 ·rcases List.mem_append.mp hx with hx | hx
  ·exact h1.2.2 x hx y hy
  ·exact hk x hx y hy
structure RInv (κ:KeyKind) (T O RA RB:List Keyed):Prop where
 perm:(RA++RB++O).Perm T
 pa:(RA++O).Pairwise (ple κ)
 pb:(RB++O).Pairwise (ple κ)
theorem RInv.moveA (h:RInv κ T O (RA++K) RB) (hk:∀ x∈RB,∀ y∈K,ple κ x y):RInv κ T (K++O) RA RB:=by
 have h1:=List.pairwise_append.mp h.pa
 have h2:=List.pairwise_append.mp h.pb
 refine ⟨List.Perm.trans ?_ h.perm,by rw [← List.append_assoc];exact h.pa,List.pairwise_append.mpr ⟨h2.1,?_,fun x hx y hy=>?_⟩⟩
 ·rw [List.append_assoc,List.append_assoc,List.append_assoc]
  exact List.Perm.append_left RA (List.perm_append_comm_assoc RB K O)
 ·refine h.pa.sublist ?_
  rw [List.append_assoc]
  exact List.sublist_append_right RA (K++O)
 ·rcases List.mem_append.mp hy with hy | hy
  ·exact hk x hx y hy
  ·exact h2.2.2 x hx y hy
theorem RInv.moveB (h:RInv κ T O RA (RB++K)) (hk:∀ x∈RA,∀ y∈K,ple κ x y):RInv κ T (K++O) RA RB:=by
 have h1:=List.pairwise_append.mp h.pa
 have h2:=List.pairwise_append.mp h.pb
 refine ⟨by simpa [List.append_assoc] using h.perm,List.pairwise_append.mpr ⟨h1.1,?_,fun x hx y hy=>?_⟩,by rw [← List.append_assoc];exact h.pb⟩
 ·refine h.pb.sublist ?_
  rw [List.append_assoc]
  exact List.sublist_append_right RB (K++O)
 ·rcases List.mem_append.mp hy with hy | hy
  ·exact hk x hx y hy
  ·exact h1.2.2 x hx y hy
noncomputable def Mer (κ:KeyKind) (a b r:Array Keyed):Prop:=r.toList.Perm (a.toList++b.toList)∧r.toList.Pairwise (ple κ)
theorem ext_all (a:Array Keyed) (i:Nat):(a.extract i a.size).toList=a.toList.drop i:=by
 rw [Array.toList_extract,List.extract_eq_take_drop]
 exact List.take_of_length_le (by simp)
theorem ext_k (a:Array Keyed) (i k:Nat):(a.extract i (i+k)).toList=(a.toList.drop i).take k:=by
 rw [Array.toList_extract,List.extract_eq_take_drop];congr 1;(exact qEZ)
theorem ext_0 (a:Array Keyed) (k:Nat):(a.extract 0 k).toList=a.toList.take k:=by
 have:=ext_k a 0 k;simpa using this
theorem mem_drop_at {L:List Keyed} {i:Nat} {x:Keyed} (h:x∈L.drop i):∃ j,i≤j∧L[j]?=some x:=by
 obtain ⟨j,hj⟩:=List.mem_iff_getElem?.mp h
 rw [List.getElem?_drop] at hj
 exact ⟨i+j,by exact qAE,hj⟩
theorem mem_take_at {L:List Keyed} {k:Nat} {x:Keyed} (h:x∈L.take k):∃ j,j < k∧L[j]?=some x:=by
 obtain ⟨j,hj⟩:=List.mem_iff_getElem?.mp h
 rw [List.getElem?_take] at hj
 split at hj
 ·exact ⟨j,by assumption,hj⟩
 ·cases hj
theorem mem_cut_at {L:List Keyed} {i k:Nat} {x:Keyed} (h:x∈(L.drop i).take k):∃ j,i≤j∧j < i+k∧L[j]?=some x:=by
 obtain ⟨j,hj,e⟩:=mem_take_at h
 rw [List.getElem?_drop] at e
 exact ⟨i+j,by exact qAE,by exact qAm hj,e⟩
theorem arr_at {a:Array Keyed} {j:Nat} {x:Keyed} (h:a.toList[j]?=some x):KK κ a j=ky κ x:=KK_at (by rw [← Array.getElem?_toList];exact h)
theorem at_lt {a:Array Keyed} {j:Nat} {x:Keyed} (h:a.toList[j]?=some x):j < a.size:=by
 have:=(List.getElem?_eq_some_iff.mp h).1;simpa using this
theorem drop_cons' {a:Array Keyed} {i:Nat} {p:Keyed} (h:a[i]?=some p):a.toList.drop i=[p]++a.toList.drop (i+1):=by
 rw [← Array.getElem?_toList] at h
 obtain ⟨hi,e⟩:=List.getElem?_eq_some_iff.mp h
 rw [List.drop_eq_getElem_cons hi,e];rfl
theorem take_snoc' {a:Array Keyed} {i:Nat} {p:Keyed} (h:a[i]?=some p):a.toList.take (i+1)=a.toList.take i++[p]:=by
 rw [← Array.getElem?_toList] at h
 rw [List.take_add_one,h];rfl
theorem drop_split (L:List Keyed) (i k:Nat):L.drop i=(L.drop i).take k++L.drop (i+k):=by
 rw [← List.drop_drop];exact (List.take_append_drop k _).symm
theorem take_split (L:List Keyed) {i k:Nat} (h:i≤k):L.take k=L.take i++(L.drop i).take (k - i):=by
 have:k=i+(k - i):=by exact qDK h
 rw [this,List.take_add];congr 2;(exact qDO)
theorem Seg.pairwise {xs:Array Keyed} (h:Seg κ xs 0 xs.size):xs.toList.Pairwise (ple κ):=by
 rw [List.pairwise_iff_getElem]
 intro i j hi hj hij
 have hi':xs.toList[i]?=some xs.toList[i]:=List.getElem?_eq_getElem hi
 have hj':xs.toList[j]?=some xs.toList[j]:=List.getElem?_eq_getElem hj
 have:=h i j (by (exact Nat.zero_le _)) (by (exact Nat.le_of_lt ‹_›)) (at_lt hj')
 rw [arr_at hi',arr_at hj'] at this
 exact this
theorem Seg.of_pairwise {xs:Array Keyed} (h:xs.toList.Pairwise (ple κ)):Seg κ xs 0 xs.size:=fun p q _ h2 h3=>by
 by_cases e:p=q
 ·subst e;exact KeyOrd.kle_refl _
 ·have hp:p < xs.toList.length:=by simp;(exact qAk h2 h3)
  have hq:q < xs.toList.length:=by simp;omega
  have:=List.pairwise_iff_getElem.mp h p q hp hq (by exact qDf h2 e)
  rw [arr_at (List.getElem?_eq_getElem hp),arr_at (List.getElem?_eq_getElem hq)]
  exact this
end
end Mine
namespace Mine
open PySem PyProof.Rows
noncomputable def mergeLo':Array Keyed→Array Keyed→StateT SortSt Sem (Array Keyed):=sortPriv% PySem.Builtin.mergeLo
noncomputable def mergeHi':Array Keyed→Array Keyed→StateT SortSt Sem (Array Keyed):=sortPriv% PySem.Builtin.mergeHi
noncomputable abbrev LoS:=Option (Array Keyed)×Array Keyed×Nat×Nat×Nat
noncomputable abbrev LoS1:=Option (Array Keyed)×Array Keyed×Nat×Nat×Nat×Nat
noncomputable abbrev LoS2:=Option (Array Keyed)×Array Keyed×Nat×Nat×Nat×Nat×Nat
noncomputable def loDone (a b out:Array Keyed) (ia ib:Nat):Array Keyed:=out++a.extract ia a.size++b.extract ib b.size
noncomputable def loLast (a b out:Array Keyed) (ia ib:Nat):Array Keyed:=out++b.extract ib b.size++a.extract ia a.size
noncomputable def lo1 (a b:Array Keyed) (mg:Nat) (c:LoS1):StateT SortSt Sem (ForInStep LoS1):=do
 let y ← elem' b c.2.2.2.1
 let x ← elem' a c.2.2.1
 let r ← lt' y x
 match r with
 | some bWins =>
  if bWins=true then do
   let y ← elem' b c.2.2.2.1
   if (c.2.2.2.1+1 == b.size)=true then pure (ForInStep.done (some (loDone a b (c.2.1.push y) c.2.2.1 (c.2.2.2.1+1)),c.2.1.push y,c.2.2.1,c.2.2.2.1+1,0,c.2.2.2.2.2+1))
   else if c.2.2.2.2.2+1≥mg then pure (ForInStep.done (none,c.2.1.push y,c.2.2.1,c.2.2.2.1+1,0,c.2.2.2.2.2+1))
   else pure (ForInStep.yield (none,c.2.1.push y,c.2.2.1,c.2.2.2.1+1,0,c.2.2.2.2.2+1))
  else do
   let x ← elem' a c.2.2.1
   if (c.2.2.1+1+1 == a.size)=true then pure (ForInStep.done (some (loLast a b (c.2.1.push x) (c.2.2.1+1) c.2.2.2.1),c.2.1.push x,c.2.2.1+1,c.2.2.2.1,c.2.2.2.2.1+1,0))
   else if c.2.2.2.2.1+1≥mg then pure (ForInStep.done (none,c.2.1.push x,c.2.2.1+1,c.2.2.2.1,c.2.2.2.2.1+1,0))
   else pure (ForInStep.yield (none,c.2.1.push x,c.2.2.1+1,c.2.2.2.1,c.2.2.2.2.1+1,0))
 | _=>pure (ForInStep.done (some (loDone a b c.2.1 c.2.2.1 c.2.2.2.1),c.2.1,c.2.2.1,c.2.2.2.1,c.2.2.2.2.1,c.2.2.2.2.2))
noncomputable def lo2c (a b:Array Keyed) (mg ac bc:Nat) (ia:Nat) (out:Array Keyed) (ib:Nat):StateT SortSt Sem (ForInStep LoS2):=do
 let x ← elem' a ia
 if (ia+1+1 == a.size)=true then pure (ForInStep.done (some (loLast a b (out.push x) (ia+1) ib),out.push x,ia+1,ib,mg,ac,bc))
 else if (decide (ac < 7) && decide (bc < 7))=true then pure (ForInStep.done (none,out.push x,ia+1,ib,mg,ac,bc))
 else pure (ForInStep.yield (none,out.push x,ia+1,ib,mg,ac,bc))
noncomputable def lo2b (a b:Array Keyed) (mg ac bc:Nat) (ib:Nat) (out:Array Keyed) (ia:Nat):StateT SortSt Sem (ForInStep LoS2):=do
 let y ← elem' b ib
 if (ib+1 == b.size)=true then pure (ForInStep.done (some (loDone a b (out.push y) ia (ib+1)),out.push y,ia,ib+1,mg,ac,bc))
 else do
  let x ← elem' a ia
  let r ← gallop' true x b (ib+1) (b.size - (ib+1)) 0
  match r with
  | some k =>
   if k > 0 then
    if (ib+1+k == b.size)=true then pure (ForInStep.done (some (loDone a b (out.push y++b.extract (ib+1) (ib+1+k)) ia (ib+1+k)),out.push y++b.extract (ib+1) (ib+1+k),ia,ib+1+k,mg,ac,k))
    else lo2c a b mg ac k ia (out.push y++b.extract (ib+1) (ib+1+k)) (ib+1+k)
   else lo2c a b mg ac k ia (out.push y) (ib+1)
  | _=>pure (ForInStep.done (some (loDone a b (out.push y) ia (ib+1)),out.push y,ia,ib+1,mg,ac,bc))
noncomputable def lo2a (a b out:Array Keyed) (ia ib ac bc mg:Nat):StateT SortSt Sem (ForInStep LoS2):=do
 setMinGallop' mg
 let y ← elem' b ib
 let r ← gallop' false y a ia (a.size - ia) 0
 match r with
 | some k =>
  if k > 0 then
   if (ia+k+1 == a.size)=true then pure (ForInStep.done (some (loLast a b (out++a.extract ia (ia+k)) (ia+k) ib),out++a.extract ia (ia+k),ia+k,ib,mg,k,bc))
   else if (ia+k == a.size)=true then pure (ForInStep.done (some (loDone a b (out++a.extract ia (ia+k)) (ia+k) ib),out++a.extract ia (ia+k),ia+k,ib,mg,k,bc))
   else lo2b a b mg k bc ib (out++a.extract ia (ia+k)) (ia+k)
  else lo2b a b mg k bc ib out ia
 | _=>pure (ForInStep.done (some (loDone a b out ia ib),out,ia,ib,mg,ac,bc))
noncomputable def lo2 (a b:Array Keyed) (c:LoS2):StateT SortSt Sem (ForInStep LoS2) :=
 if c.2.2.2.2.1 > 1 then lo2a a b c.2.1 c.2.2.1 c.2.2.2.1 c.2.2.2.2.2.1 c.2.2.2.2.2.2 (c.2.2.2.2.1 - 1)
 else lo2a a b c.2.1 c.2.2.1 c.2.2.2.1 c.2.2.2.2.2.1 c.2.2.2.2.2.2 c.2.2.2.2.1
noncomputable def lo0 (a b:Array Keyed) (c:LoS):StateT SortSt Sem (ForInStep LoS):=do
 let d ← forIn [0:a.size+b.size] ((none,c.2.1,c.2.2.1,c.2.2.2.1,0,0):LoS1) fun _ d=>lo1 a b c.2.2.2.2 d
 Break.runK.match_1 (fun _=>StateT SortSt Sem (ForInStep LoS)) d.1 (fun r=>pure (ForInStep.done (some r,d.2.1,d.2.2.1,d.2.2.2.1,c.2.2.2.2))) fun _=>do
  liftM (rule "list.sort.gallop")
  let e ← forIn [0:a.size+b.size] ((none,d.2.1,d.2.2.1,d.2.2.2.1,c.2.2.2.2+1,d.2.2.2.2.1,d.2.2.2.2.2):LoS2) fun _ e=>lo2 a b e
  Break.runK.match_1 (fun _=>StateT SortSt Sem (ForInStep LoS)) e.1 (fun r=>pure (ForInStep.done (some r,e.2.1,e.2.2.1,e.2.2.2.1,e.2.2.2.2.1))) fun _=>do
   setMinGallop' (e.2.2.2.2.1+1)
   pure (ForInStep.yield (none,e.2.1,e.2.2.1,e.2.2.2.1,e.2.2.2.2.1+1))
theorem mergeLo'_eq (a b:Array Keyed):mergeLo' a b=(do
  liftM (rule "list.sort.merge-lo")
  let y ← elem' b 0
  if (1 == b.size)=true then pure (loDone a b #[y] 0 1)
  else if (0+1 == a.size)=true then pure (loLast a b #[y] 0 1)
  else do
   let st ← get
   let c ← forIn [0:a.size+b.size] ((none,#[y],0,1,gallopOf st):LoS) fun _ c=>lo0 a b c
   Break.runK.match_1 (fun _=>StateT SortSt Sem (Array Keyed)) c.1 (fun r=>pure r) fun _=>liftM (unsupported "internal:list.sort.merge-bound":Sem (Array Keyed))):=rfl
section
variable {prog:Program} {w:World} {A:Around} {E:Value→Shared→Prop} {s:Shared} {κ:KeyKind} {a b out:Array Keyed} {ia ib:Nat}
structure LoI (κ:KeyKind) (a b out:Array Keyed) (ia ib:Nat):Prop where
 inv:MInv κ (a.toList++b.toList) out.toList (a.toList.drop ia) (b.toList.drop ib)
 ha:ia+1 < a.size
 hb:ib < b.size
structure MG (κ:KeyKind) (a b:Array Keyed):Prop where
 ka:AllK κ a
 kb:AllK κ b
 sa:Seg κ a 0 a.size
 sb:Seg κ b 0 b.size
 na:0 < a.size
 nb:0 < b.size
 first:κ.klt (KK κ b 0) (KK κ a 0)
 last:∀ i,i < b.size→κ.klt (KK κ b i) (KK κ a (a.size - 1))
theorem done_A {O:List Keyed} (h:MInv κ (a.toList++b.toList) out.toList (a.toList.drop ia) (b.toList.drop ib)) (hb:ib=b.size):Mer κ a b (loDone a b out ia ib):=by
 have e:b.toList.drop ib=[]:=List.drop_of_length_le (by simp [hb])
 have e2:(loDone a b out ia ib).toList=out.toList++a.toList.drop ia++b.toList.drop ib:=by unfold loDone;simp only [Array.toList_append,ext_all]
 refine ⟨by rw [e2];exact h.perm,?_⟩
 rw [e2,e,List.append_nil];exact h.pa
theorem done_B (h:MInv κ (a.toList++b.toList) out.toList (a.toList.drop ia) (b.toList.drop ib)) (ha:ia=a.size):Mer κ a b (loDone a b out ia ib):=by
 have e:a.toList.drop ia=[]:=List.drop_of_length_le (by simp [ha])
 have e2:(loDone a b out ia ib).toList=out.toList++a.toList.drop ia++b.toList.drop ib:=by unfold loDone;simp only [Array.toList_append,ext_all]
 refine ⟨by rw [e2];exact h.perm,?_⟩
 rw [e2,e,List.append_nil];exact h.pb
theorem last_A (g:MG κ a b) (h:MInv κ (a.toList++b.toList) out.toList (a.toList.drop ia) (b.toList.drop ib)) (ha:ia+1=a.size):Mer κ a b (loLast a b out ia ib):=by
 have e2:(loLast a b out ia ib).toList=out.toList++b.toList.drop ib++a.toList.drop ia:=by unfold loLast;simp only [Array.toList_append,ext_all]
 have hp:=List.pairwise_append.mp h.pa
 rw [Mer,e2]
 refine ⟨List.Perm.trans ?_ h.perm,List.pairwise_append.mpr ⟨h.pb,hp.2.1,fun x hx y hy=>?_⟩⟩
 ·rw [List.append_assoc,List.append_assoc]
  exact List.Perm.append_left _ List.perm_append_comm
 ·rcases List.mem_append.mp hx with hx | hx
  ·exact hp.2.2 x hx y hy
  ·obtain ⟨j,_,hj⟩:=mem_drop_at hx
   obtain ⟨i,hi,hi'⟩:=mem_drop_at hy
   have h1:=at_lt hi'
   have:i=a.size - 1:=by exact qCw ha hi h1
   subst this
   have:=g.last j (at_lt hj)
   rw [arr_at hj,arr_at hi'] at this
   exact KeyOrd.kle_of_klt this
theorem le_rest {i j:Nat} {x y:Keyed} {xs:Array Keyed} (h:Seg κ xs 0 xs.size) (hi:xs[i]?=some x) (hj:xs.toList[j]?=some y) (hij:i≤j):ple κ x y:=by
 have:=h i j (by (exact Nat.zero_le _)) hij (at_lt hj)
 rw [KK_at hi,arr_at hj] at this
 exact this
theorem LoI.pushB (g:MG κ a b) (h:MInv κ (a.toList++b.toList) out.toList (a.toList.drop ia) (b.toList.drop ib)) {y:Keyed} (hy:b[ib]?=some y) (hle:∀ x∈a.toList.drop ia,ple κ y x):MInv κ (a.toList++b.toList) (out.push y).toList (a.toList.drop ia) (b.toList.drop (ib+1)):=by
 rw [Array.toList_push]
 rw [drop_cons' hy] at h
 exact h.moveB (by simpa using hle)
theorem LoI.pushA (g:MG κ a b) (h:MInv κ (a.toList++b.toList) out.toList (a.toList.drop ia) (b.toList.drop ib)) {x:Keyed} (hx:a[ia]?=some x) (hle:∀ y∈b.toList.drop ib,ple κ x y):MInv κ (a.toList++b.toList) (out.push x).toList (a.toList.drop (ia+1)) (b.toList.drop ib):=by
 rw [Array.toList_push]
 rw [drop_cons' hx] at h
 exact h.moveA (by simpa using hle)
noncomputable def Fin2 (κ:KeyKind) (a b:Array Keyed) (m:Nat) (r:Option (Array Keyed)) (out:Array Keyed) (ia ib:Nat):Prop:=(∃ x,r=some x∧Mer κ a b x)∨(r=none∧LoI κ a b out ia ib∧m≤ia+ib)
theorem wpS_lo1 {st:SortSt} {mg m:Nat} {d:LoS1} {Q:ForInStep LoS1→SortSt→Prop} (hO:κ.OneLt) (g:MG κ a b) (hk:kindOf st=oneType') (h0:d.1=none) (hI:LoI κ a b d.2.1 d.2.2.1 d.2.2.2.1) (hm:m≤d.2.2.1+d.2.2.2.1)
  (hd:∀ c:LoS1,Fin2 κ a b (m+1) c.1 c.2.1 c.2.2.1 c.2.2.2.1→Q (.done c) st) (hy:∀ c:LoS1,c.1=none→LoI κ a b c.2.1 c.2.2.1 c.2.2.2.1→m+1≤c.2.2.1+c.2.2.2.1→Q (.yield c) st) :
  wpS (model prog w) A E s (lo1 a b mg d) Q st:=by
 obtain ⟨_,out,ia,ib,ac,bc⟩:=d
 dsimp only at h0 hI hm
 unfold lo1
 dsimp only
 have ⟨hinv,hia,hib⟩:=hI
 obtain ⟨y,ey,ky',hKy⟩:=g.kb.at hib
 obtain ⟨x,ex,kx',hKx⟩:=g.ka.at (i:=ia) (by exact qAM hia)
 refine wpS_bind (wpS_elem ey (wpS_bind (wpS_elem ex (wpS_bind (wpS_lt2 hO hk ky' kx' ?_)))))
 dsimp only
 cases hlt:κ.blt (ky κ y) (ky κ x) with
 | true =>
  simp only [if_true]
  refine wpS_bind (wpS_elem ey ?_)
  have hn:=LoI.pushB g hinv ey fun z hz=>by
   obtain ⟨j,hj,ej⟩:=mem_drop_at hz
   exact ple_trans (KeyOrd.kle_of_klt hlt) (le_rest g.sa ex ej hj)
  by_cases hE:ib+1=b.size
  ·rw [if_pos (by simpa using hE)]
   exact wpS_pure (hd _ (.inl ⟨_,rfl,done_A (O:=[]) hn hE⟩))
  ·rw [if_neg (by simpa using hE)]
   have hI':LoI κ a b (out.push y) ia (ib+1):=⟨hn,hia,by exact qBa hib hE⟩
   split
   ·exact wpS_pure (hd _ (.inr ⟨rfl,hI',by dsimp only;exact qBb hm⟩))
   ·exact wpS_pure (hy _ rfl hI' (by dsimp only;exact qBb hm))
 | false =>
  simp only [Bool.false_eq_true,if_false]
  refine wpS_bind (wpS_elem ex ?_)
  have hn:=LoI.pushA g hinv ex fun z hz=>by
   obtain ⟨j,hj,ej⟩:=mem_drop_at hz
   exact ple_trans (show ple κ x y from hlt) (le_rest g.sb ey ej hj)
  by_cases hE:ia+1+1=a.size
  ·rw [if_pos (by simpa using hE)]
   exact wpS_pure (hd _ (.inl ⟨_,rfl,last_A g hn hE⟩))
  ·rw [if_neg (by simpa using hE)]
   have hI':LoI κ a b (out.push x) (ia+1) ib:=⟨hn,by exact qBy hia hE,hib⟩
   split
   ·exact wpS_pure (hd _ (.inr ⟨rfl,hI',by dsimp only;exact qBW hm⟩))
   ·exact wpS_pure (hy _ rfl hI' (by dsimp only;exact qBW hm))
theorem seg_in {xs:Array Keyed} {i j:Nat} (h:Seg κ xs 0 xs.size) (hj:j≤xs.size):Seg κ xs i j:=fun p q h1 h2 h3=>h p q (by (exact Nat.zero_le _)) h2 (by exact qEg hj h3)
theorem wpS_lo2c {st:SortSt} {mg ac bc m:Nat} {Q:ForInStep LoS2→SortSt→Prop} (g:MG κ a b) (hinv:MInv κ (a.toList++b.toList) out.toList (a.toList.drop ia) (b.toList.drop ib)) (hia:ia+1 < a.size) (hib:ib < b.size) (hm:m≤ia+ib)
  (hle:∀ i,ib≤i→i < b.size→κ.kle (KK κ a ia) (KK κ b i))
  (hd:∀ c:LoS2,Fin2 κ a b m c.1 c.2.1 c.2.2.1 c.2.2.2.1→Q (.done c) st) (hy:∀ c:LoS2,c.1=none→LoI κ a b c.2.1 c.2.2.1 c.2.2.2.1→m≤c.2.2.1+c.2.2.2.1→Q (.yield c) st) :
  wpS (model prog w) A E s (lo2c a b mg ac bc ia out ib) Q st:=by
 unfold lo2c
 obtain ⟨x,ex,kx',hKx⟩:=g.ka.at (i:=ia) (by exact qAM hia)
 refine wpS_bind (wpS_elem ex ?_)
 have hn:=LoI.pushA g hinv ex fun z hz=>by
  obtain ⟨j,hj,ej⟩:=mem_drop_at hz
  have:=hle j hj (at_lt ej)
  rw [hKx,arr_at ej] at this
  exact this
 by_cases hE:ia+1+1=a.size
 ·rw [if_pos (by simpa using hE)]
  exact wpS_pure (hd _ (.inl ⟨_,rfl,last_A g hn hE⟩))
 ·rw [if_neg (by simpa using hE)]
  have hI':LoI κ a b (out.push x) (ia+1) ib:=⟨hn,by exact qBy hia hE,hib⟩
  split
  ·exact wpS_pure (hd _ (.inr ⟨rfl,hI',by dsimp only;exact qBr hm⟩))
  ·exact wpS_pure (hy _ rfl hI' (by dsimp only;exact qBr hm))
theorem wpS_lo2b {st:SortSt} {mg ac bc m:Nat} {Q:ForInStep LoS2→SortSt→Prop} (hO:κ.OneLt) (hk:kindOf st=oneType') (g:MG κ a b) (hinv:MInv κ (a.toList++b.toList) out.toList (a.toList.drop ia) (b.toList.drop ib)) (hia:ia+1 < a.size) (hib:ib < b.size) (hm:m≤ia+ib)
  (hle:∀ i,ia≤i→i < a.size→κ.kle (KK κ b ib) (KK κ a i))
  (hd:∀ c:LoS2,Fin2 κ a b m c.1 c.2.1 c.2.2.1 c.2.2.2.1→Q (.done c) st) (hy:∀ c:LoS2,c.1=none→LoI κ a b c.2.1 c.2.2.1 c.2.2.2.1→m≤c.2.2.1+c.2.2.2.1→Q (.yield c) st) :
  wpS (model prog w) A E s (lo2b a b mg ac bc ib out ia) Q st:=by
 unfold lo2b
 obtain ⟨y,ey,ky',hKy⟩:=g.kb.at hib
 obtain ⟨x,ex,kx',hKx⟩:=g.ka.at (i:=ia) (by exact qAM hia)
 refine wpS_bind (wpS_elem ey ?_)
 have hn:=LoI.pushB g hinv ey fun z hz=>by
  obtain ⟨j,hj,ej⟩:=mem_drop_at hz
  have:=hle j hj (at_lt ej)
  rw [hKy,arr_at ej] at this
  exact this
 by_cases hE:ib+1=b.size
 ·rw [if_pos (by simpa using hE)]
  exact wpS_pure (hd _ (.inl ⟨_,rfl,done_A (O:=[]) hn hE⟩))
 ·rw [if_neg (by simpa using hE)]
  refine wpS_bind (wpS_elem ex (wpS_bind (wpS_gallopL hO hk g.kb (by exact qBD hib) kx' (seg_in g.sb (by exact qBD hib)) (by exact qCK hib hE) fun k h1 h2 h3=>?_)))
  dsimp only
  have hmv:MInv κ (a.toList++b.toList) (out.push y++b.extract (ib+1) (ib+1+k)).toList (a.toList.drop ia) (b.toList.drop (ib+1+k)):=by
   rw [Array.toList_append,ext_k]
   rw [drop_split b.toList (ib+1) k] at hn
   refine hn.moveB fun u hu v hv=>?_
   obtain ⟨j,j1,j2,ej⟩:=mem_cut_at hu
   obtain ⟨i,hi,ei⟩:=mem_drop_at hv
   have:=h2 (j - (ib+1)) (by exact qGQ j1 j2)
   rw [show ib+1+(j - (ib+1))=j by exact qHn j1,arr_at ej] at this
   exact ple_trans (KeyOrd.kle_of_klt this) (le_rest g.sa ex ei hi)
  have hle2:∀ i,ib+1+k≤i→i < b.size→κ.kle (KK κ a ia) (KK κ b i):=fun i h4 h5=>by
   have:=h3 (i - (ib+1)) (by exact qFd h4) (by exact qG5 hib hE h5)
   rw [show ib+1+(i - (ib+1))=i by exact qCa h4] at this
   rw [hKx];exact this
  by_cases hk0:k > 0
  ·rw [if_pos hk0]
   by_cases hE2:ib+1+k=b.size
   ·rw [if_pos (by simpa using hE2)]
    exact wpS_pure (hd _ (.inl ⟨_,rfl,done_A (O:=[]) hmv hE2⟩))
   ·rw [if_neg (by simpa using hE2)]
    exact wpS_lo2c g hmv hia (by exact qEs hib h1 hE2) (by exact qE0 hm) hle2 hd hy
  ·rw [if_neg hk0]
   have:k=0:=by exact qBd hk0
   subst this
   exact wpS_lo2c g hn hia (by exact qBa hib hE) (by exact qG4 hm) hle2 hd hy
theorem wpS_lo2a {st:SortSt} {mg ac bc m:Nat} {Q:ForInStep LoS2→SortSt→Prop} (hO:κ.OneLt) (hk:kindOf st=oneType') (g:MG κ a b) (hI:LoI κ a b out ia ib) (hm:m≤ia+ib)
  (hd:∀ (c:LoS2) st',Gs st st'→Fin2 κ a b m c.1 c.2.1 c.2.2.1 c.2.2.2.1→Q (.done c) st') (hy:∀ (c:LoS2) st',Gs st st'→c.1=none→LoI κ a b c.2.1 c.2.2.1 c.2.2.2.1→m≤c.2.2.1+c.2.2.2.1→Q (.yield c) st') :
  wpS (model prog w) A E s (lo2a a b out ia ib ac bc mg) Q st:=by
 unfold lo2a
 rw [setMinGallop'_eq]
 refine wpS_bind (wpS_modify ?_)
 have hG:=(Gs.refl st).set mg
 have ⟨hinv,hia,hib⟩:=hI
 obtain ⟨y,ey,ky',hKy⟩:=g.kb.at hib
 refine wpS_bind (wpS_elem ey (wpS_bind (wpS_gallopR hO hk g.ka (by exact qBQ hia) ky' (seg_in g.sa (by exact qBQ hia)) (by exact qEC hia) fun k h1 h2 h3=>?_)))
 dsimp only
 have hmv:MInv κ (a.toList++b.toList) (out++a.extract ia (ia+k)).toList (a.toList.drop (ia+k)) (b.toList.drop ib):=by
  rw [Array.toList_append,ext_k]
  rw [drop_split a.toList ia k] at hinv
  refine hinv.moveA fun u hu v hv=>?_
  obtain ⟨j,j1,j2,ej⟩:=mem_cut_at hu
  obtain ⟨i,hi,ei⟩:=mem_drop_at hv
  have:=h2 (j - ia) (by exact qAl j1 j2)
  rw [show ia+(j - ia)=j by exact qEa j1,arr_at ej] at this
  exact ple_trans this (le_rest g.sb ey ei hi)
 have hle2:∀ i,ia+k≤i→i < a.size→κ.kle (KK κ b ib) (KK κ a i):=fun i h4 h5=>by
  have:=h3 (i - ia) (by exact qDR h4) (by exact qGq hia h5)
  rw [show ia+(i - ia)=i by exact qDc h4] at this
  rw [hKy];exact KeyOrd.kle_of_klt this
 by_cases hk0:k > 0
 ·rw [if_pos hk0]
  by_cases hE:ia+k+1=a.size
  ·rw [if_pos (by simpa using hE)]
   exact wpS_pure (hd _ _ hG (.inl ⟨_,rfl,last_A g hmv hE⟩))
  ·rw [if_neg (by simpa using hE)]
   by_cases hE2:ia+k=a.size
   ·rw [if_pos (by simpa using hE2)]
    exact wpS_pure (hd _ _ hG (.inl ⟨_,rfl,done_B hmv hE2⟩))
   ·rw [if_neg (by simpa using hE2)]
    exact wpS_lo2b hO hk g hmv (by exact qDj hia h1 hE hE2) hib (by exact qGw hm) hle2 (fun c=>hd c _ hG) fun c=>hy c _ hG
 ·rw [if_neg hk0]
  have:k=0:=by exact qBd hk0
  subst this
  exact wpS_lo2b hO hk g hinv hia hib hm hle2 (fun c=>hd c _ hG) fun c=>hy c _ hG
theorem Gs.trans {st st' st'':SortSt} (h:Gs st st') (h':Gs st' st''):Gs st st'':=⟨h'.kind.trans h.kind,h'.arr.trans h.arr,h'.pend.trans h.pend,h'.failed.trans h.failed⟩
theorem wpS_lo0 {st:SortSt} {m:Nat} {c:LoS} {Q:ForInStep LoS→SortSt→Prop} (hO:κ.OneLt) (hk:kindOf st=oneType') (g:MG κ a b) (hI:LoI κ a b c.2.1 c.2.2.1 c.2.2.2.1) (hm:m+1≤c.2.2.1+c.2.2.2.1)
  (hd:∀ (d:LoS) st' x,Gs st st'→d.1=some x→Mer κ a b x→Q (.done d) st') (hy:∀ (d:LoS) st',Gs st st'→d.1=none→LoI κ a b d.2.1 d.2.2.1 d.2.2.2.1→m+1+1≤d.2.2.1+d.2.2.2.1→Q (.yield d) st') :
  wpS (model prog w) A E s (lo0 a b c) Q st:=by
 obtain ⟨c0,out,ia,ib,mg⟩:=c
 dsimp only at hI hm
 unfold lo0
 dsimp only
 refine wpS_bind (wpS_mono (wpS_forRange (I:=fun x d st'=>st'=st∧d.1=none∧LoI κ a b d.2.1 d.2.2.1 d.2.2.2.1∧m+1+x≤d.2.2.1+d.2.2.2.1)
  (Q:=fun d st'=>st'=st∧Fin2 κ a b (m+1+1) d.1 d.2.1 d.2.2.1 d.2.2.2.1) ?step ?fin ⟨rfl,rfl,hI,by (assumption)⟩) ?post)
 case fin =>
  rintro d st' ⟨rfl,h1,h2,h3⟩
  have:=h2.ha;have:=h2.hb
  lia
 case step =>
  rintro x d st' _ hx ⟨rfl,h1,h2,h3⟩
  exact wpS_lo1 hO g hk h1 h2 h3 (fun e he=>⟨rfl,he.imp id fun ⟨e1,e2,e3⟩=>⟨e1,e2,by lia⟩⟩) fun e e1 e2 e3=>⟨rfl,e1,e2,by (assumption)⟩
 case post =>
  rintro ⟨r,out,ia,ib,ac,bc⟩ st' ⟨rfl,h1 | h1⟩
  ·obtain ⟨x,rfl,hx⟩:=h1
   exact wpS_pure (hd _ _ x (.refl _) rfl hx)
  obtain ⟨rfl,hI,hm⟩:=h1
  dsimp only at hI hm ⊢
  refine wpS_bind (wpS_lift (wpAny_rule ⟨rfl,?_⟩))
  refine wpS_bind (wpS_mono (wpS_forRange (I:=fun x d st''=>Gs st' st''∧d.1=none∧LoI κ a b d.2.1 d.2.2.1 d.2.2.2.1∧m+1+1≤d.2.2.1+d.2.2.2.1)
   (Q:=fun d st''=>Gs st' st''∧Fin2 κ a b (m+1+1) d.1 d.2.1 d.2.2.1 d.2.2.2.1) ?step ?fin ⟨.refl _,rfl,hI,hm⟩) ?post)
  case fin =>
   rintro d st'' ⟨h0,h1,h2,h3⟩
   exact ⟨h0,.inr ⟨h1,h2,h3⟩⟩
  case step =>
   rintro x d st'' _ hx ⟨h0,h1,h2,h3⟩
   unfold lo2
   split
   ·exact wpS_lo2a hO (h0.kind.trans hk) g h2 h3 (fun c st3 hg hf=>⟨h0.trans hg,hf⟩) fun c st3 hg h4 h5 h6=>⟨h0.trans hg,h4,h5,h6⟩
   ·exact wpS_lo2a hO (h0.kind.trans hk) g h2 h3 (fun c st3 hg hf=>⟨h0.trans hg,hf⟩) fun c st3 hg h4 h5 h6=>⟨h0.trans hg,h4,h5,h6⟩
  case post =>
   rintro ⟨r,out,ia,ib,mg,ac,bc⟩ st'' ⟨hg,h1 | h1⟩
   ·obtain ⟨x,rfl,hx⟩:=h1
    exact wpS_pure (hd _ _ x hg rfl hx)
   obtain ⟨rfl,hI,hm⟩:=h1
   dsimp only at hI hm ⊢
   rw [setMinGallop'_eq]
   exact wpS_bind (wpS_modify (wpS_pure (hy _ _ (hg.set _) rfl hI hm)))
theorem wpS_mergeLo {st:SortSt} {Q:Array Keyed→SortSt→Prop} (hO:κ.OneLt) (hk:kindOf st=oneType') (g:MG κ a b) (h:∀ r st',Gs st st'→Mer κ a b r→Q r st'):wpS (model prog w) A E s (mergeLo' a b) Q st:=by
 rw [mergeLo'_eq]
 refine wpS_bind (wpS_lift (wpAny_rule ⟨rfl,?_⟩))
 obtain ⟨y,ey,ky',hKy⟩:=g.kb.at g.nb
 refine wpS_bind (wpS_elem ey ?_)
 have h0:MInv κ (a.toList++b.toList) (#[]:Array Keyed).toList (a.toList.drop 0) (b.toList.drop 0):=⟨by simp,by simpa using g.sa.pairwise,by simpa using g.sb.pairwise⟩
 have hn:MInv κ (a.toList++b.toList) #[y].toList (a.toList.drop 0) (b.toList.drop 1):=LoI.pushB g h0 ey fun z hz=>by
  obtain ⟨j,hj,ej⟩:=mem_drop_at hz
  have h1:=g.sa 0 j (by exact qAZ) (by (assumption)) (at_lt ej)
  rw [arr_at ej] at h1
  have h2:=g.first
  rw [hKy] at h2
  exact KeyOrd.kle_of_klt (KeyOrd.klt_of_klt_of_kle h2 h1)
 by_cases hE:1=b.size
 ·rw [if_pos (by simpa using hE)]
  exact wpS_pure (h _ _ (.refl _) (done_A (O:=[]) hn hE))
 ·rw [if_neg (by simpa using hE)]
  by_cases hE2:0+1=a.size
  ·rw [if_pos (by simpa using hE2)]
   exact wpS_pure (h _ _ (.refl _) (last_A g hn hE2))
  ·rw [if_neg (by simpa using hE2)]
   have:=g.na;have:=g.nb
   refine wpS_bind (wpS_get ?_)
   refine wpS_bind (wpS_mono (wpS_forRange (I:=fun x d st'=>Gs st st'∧d.1=none∧LoI κ a b d.2.1 d.2.2.1 d.2.2.2.1∧x+1≤d.2.2.1+d.2.2.2.1)
    (Q:=fun d st'=>Gs st st'∧∃ x,d.1=some x∧Mer κ a b x) ?step ?fin ⟨.refl _,rfl,⟨hn,by dsimp only;exact qGO hE2 ‹_›,by dsimp only;exact qCk hE this⟩,by dsimp only;exact qE2⟩) ?post)
   case fin =>
    rintro d st' ⟨h0,h1,h2,h3⟩
    have:=h2.ha;have:=h2.hb
    lia
   case step =>
    rintro x d st' _ hx ⟨h0,h1,h2,h3⟩
    exact wpS_lo0 hO (h0.kind.trans hk) g h2 h3 (fun d st'' x hg e1 e2=>⟨h0.trans hg,x,e1,e2⟩) fun d st'' hg e1 e2 e3=>⟨h0.trans hg,e1,e2,e3⟩
   case post =>
    rintro d st' ⟨h0,x,e1,e2⟩
    rw [e1]
    exact wpS_pure (h x _ h0 e2)
end
end Mine
namespace Mine
open PySem PyProof.Rows
noncomputable abbrev HiS:=Option (Array Keyed)×Nat×Nat×Array Keyed×Nat
noncomputable abbrev HiS1:=Option (Array Keyed)×Nat×Nat×Array Keyed×Nat×Nat
noncomputable abbrev HiS2:=Option (Array Keyed)×Nat×Nat×Array Keyed×Nat×Nat×Nat
noncomputable def hiDone (a b out:Array Keyed) (na nb:Nat):Array Keyed:=a.extract 0 na++b.extract 0 nb++out.reverse
noncomputable def hiFirst (a b out:Array Keyed) (na nb:Nat):Array Keyed:=b.extract 0 nb++a.extract 0 na++out.reverse
noncomputable def hi1' (a b:Array Keyed) (mg na nb:Nat) (out:Array Keyed) (ac bc:Nat):StateT SortSt Sem (ForInStep HiS1):=do
 let y ← elem' b (nb - 1)
 let x ← elem' a (na - 1)
 let r ← lt' y x
 match r with
 | some aWins =>
  if aWins=true then do
   let x ← elem' a (na - 1)
   if (na - 1 == 0)=true then pure (ForInStep.done (some (hiDone a b (out.push x) (na - 1) nb),na - 1,nb,out.push x,ac+1,0))
   else if ac+1≥mg then pure (ForInStep.done (none,na - 1,nb,out.push x,ac+1,0))
   else pure (ForInStep.yield (none,na - 1,nb,out.push x,ac+1,0))
  else do
   let y ← elem' b (nb - 1)
   if (nb - 1 == 1)=true then pure (ForInStep.done (some (hiFirst a b (out.push y) na (nb - 1)),na,nb - 1,out.push y,0,bc+1))
   else if bc+1≥mg then pure (ForInStep.done (none,na,nb - 1,out.push y,0,bc+1))
   else pure (ForInStep.yield (none,na,nb - 1,out.push y,0,bc+1))
 | _=>pure (ForInStep.done (some (hiDone a b out na nb),na,nb,out,ac,bc))
noncomputable def hi2c (a b:Array Keyed) (mg ac bc na nb:Nat) (out:Array Keyed):StateT SortSt Sem (ForInStep HiS2):=do
 let x ← elem' a (na - 1)
 if (na - 1 == 0)=true then pure (ForInStep.done (some (hiDone a b (out.push x) (na - 1) nb),na - 1,nb,out.push x,mg,ac,bc))
 else if (decide (ac < 7) && decide (bc < 7))=true then pure (ForInStep.done (none,na - 1,nb,out.push x,mg,ac,bc))
 else pure (ForInStep.yield (none,na - 1,nb,out.push x,mg,ac,bc))
noncomputable def hi2b (a b:Array Keyed) (mg ac bc nb na:Nat) (out:Array Keyed):StateT SortSt Sem (ForInStep HiS2):=do
 let y ← elem' b (nb - 1)
 if (nb - 1 == 1)=true then pure (ForInStep.done (some (hiFirst a b (out.push y) na (nb - 1)),na,nb - 1,out.push y,mg,ac,bc))
 else do
  let x ← elem' a (na - 1)
  let r ← gallop' true x b 0 (nb - 1) (nb - 1 - 1)
  match r with
  | some at_ =>
   if nb - 1 - at_ > 0 then
    if (at_ == 1)=true then pure (ForInStep.done (some (hiFirst a b (out.push y++(b.extract at_ (nb - 1)).reverse) na at_),na,at_,out.push y++(b.extract at_ (nb - 1)).reverse,mg,ac,nb - 1 - at_))
    else if (at_ == 0)=true then pure (ForInStep.done (some (hiDone a b (out.push y++(b.extract at_ (nb - 1)).reverse) na at_),na,at_,out.push y++(b.extract at_ (nb - 1)).reverse,mg,ac,nb - 1 - at_))
    else hi2c a b mg ac (nb - 1 - at_) na at_ (out.push y++(b.extract at_ (nb - 1)).reverse)
   else hi2c a b mg ac (nb - 1 - at_) na (nb - 1) (out.push y)
  | _=>pure (ForInStep.done (some (hiDone a b (out.push y) na (nb - 1)),na,nb - 1,out.push y,mg,ac,bc))
noncomputable def hi2a (a b:Array Keyed) (na nb:Nat) (out:Array Keyed) (ac bc mg:Nat):StateT SortSt Sem (ForInStep HiS2):=do
 setMinGallop' mg
 let y ← elem' b (nb - 1)
 let r ← gallop' false y a 0 na (na - 1)
 match r with
 | some at_ =>
  if na - at_ > 0 then
   if (at_ == 0)=true then pure (ForInStep.done (some (hiDone a b (out++(a.extract at_ na).reverse) at_ nb),at_,nb,out++(a.extract at_ na).reverse,mg,na - at_,bc))
   else hi2b a b mg (na - at_) bc nb at_ (out++(a.extract at_ na).reverse)
  else hi2b a b mg (na - at_) bc nb na out
 | _=>pure (ForInStep.done (some (hiDone a b out na nb),na,nb,out,mg,ac,bc))
noncomputable def hi2 (a b:Array Keyed) (c:HiS2):StateT SortSt Sem (ForInStep HiS2) :=
 if c.2.2.2.2.1 > 1 then hi2a a b c.2.1 c.2.2.1 c.2.2.2.1 c.2.2.2.2.2.1 c.2.2.2.2.2.2 (c.2.2.2.2.1 - 1)
 else hi2a a b c.2.1 c.2.2.1 c.2.2.2.1 c.2.2.2.2.2.1 c.2.2.2.2.2.2 c.2.2.2.2.1
noncomputable def hi0 (a b:Array Keyed) (c:HiS):StateT SortSt Sem (ForInStep HiS):=do
 let d ← forIn [0:a.size+b.size] ((none,c.2.1,c.2.2.1,c.2.2.2.1,0,0):HiS1) fun _ d=>hi1' a b c.2.2.2.2 d.2.1 d.2.2.1 d.2.2.2.1 d.2.2.2.2.1 d.2.2.2.2.2
 Break.runK.match_1 (fun _=>StateT SortSt Sem (ForInStep HiS)) d.1 (fun r=>pure (ForInStep.done (some r,d.2.1,d.2.2.1,d.2.2.2.1,c.2.2.2.2))) fun _=>do
  liftM (rule "list.sort.gallop")
  let e ← forIn [0:a.size+b.size] ((none,d.2.1,d.2.2.1,d.2.2.2.1,c.2.2.2.2+1,d.2.2.2.2.1,d.2.2.2.2.2):HiS2) fun _ e=>hi2 a b e
  Break.runK.match_1 (fun _=>StateT SortSt Sem (ForInStep HiS)) e.1 (fun r=>pure (ForInStep.done (some r,e.2.1,e.2.2.1,e.2.2.2.1,e.2.2.2.2.1))) fun _=>do
   setMinGallop' (e.2.2.2.2.1+1)
   pure (ForInStep.yield (none,e.2.1,e.2.2.1,e.2.2.2.1,e.2.2.2.2.1+1))
theorem mergeHi'_eq (a b:Array Keyed):mergeHi' a b=(do
  liftM (rule "list.sort.merge-hi")
  let x ← elem' a (a.size - 1)
  if (a.size - 1 == 0)=true then pure (hiDone a b #[x] (a.size - 1) b.size)
  else if (b.size == 1)=true then pure (hiFirst a b #[x] (a.size - 1) b.size)
  else do
   let st ← get
   let c ← forIn [0:a.size+b.size] ((none,a.size - 1,b.size,#[x],gallopOf st):HiS) fun _ c=>hi0 a b c
   Break.runK.match_1 (fun _=>StateT SortSt Sem (Array Keyed)) c.1 (fun r=>pure r) fun _=>liftM (unsupported "internal:list.sort.merge-bound":Sem (Array Keyed))):=rfl
section
variable {prog:Program} {w:World} {A:Around} {E:Value→Shared→Prop} {s:Shared} {κ:KeyKind} {a b out:Array Keyed} {na nb:Nat}
noncomputable abbrev HInv (κ:KeyKind) (a b out:Array Keyed) (na nb:Nat):Prop:=RInv κ (a.toList++b.toList) out.toList.reverse (a.toList.take na) (b.toList.take nb)
structure HiI (κ:KeyKind) (a b out:Array Keyed) (na nb:Nat):Prop where
 inv:HInv κ a b out na nb
 ha:0 < na
 hb:1 < nb
 la:na≤a.size
 lb:nb≤b.size
theorem hiDone_list:(hiDone a b out na nb).toList=a.toList.take na++b.toList.take nb++out.toList.reverse:=by unfold hiDone;simp only [Array.toList_append,ext_0,Array.toList_reverse]
theorem hiFirst_list:(hiFirst a b out na nb).toList=b.toList.take nb++a.toList.take na++out.toList.reverse:=by unfold hiFirst;simp only [Array.toList_append,ext_0,Array.toList_reverse]
theorem hdone_A (h:HInv κ a b out na nb) (hb:na=0):Mer κ a b (hiDone a b out na nb):=by
 rw [Mer,hiDone_list]
 refine ⟨h.perm,?_⟩
 subst hb
 rw [List.take_zero,List.nil_append];exact h.pb
theorem hdone_B (h:HInv κ a b out na nb) (hb:nb=0):Mer κ a b (hiDone a b out na nb):=by
 rw [Mer,hiDone_list]
 refine ⟨h.perm,?_⟩
 subst hb
 rw [List.take_zero,List.append_nil];exact h.pa
theorem hfirst (g:MG κ a b) (h:HInv κ a b out na nb) (hb:nb=1):Mer κ a b (hiFirst a b out na nb):=by
 have hp:=List.pairwise_append.mp h.pa
 have hq:=List.pairwise_append.mp h.pb
 rw [Mer,hiFirst_list]
 refine ⟨List.Perm.trans ?_ h.perm,?_⟩
 ·exact List.Perm.append_right _ List.perm_append_comm
 ·rw [List.append_assoc]
  refine List.pairwise_append.mpr ⟨hq.1,h.pa,fun x hx y hy=>?_⟩
  rcases List.mem_append.mp hy with hy | hy
  ·obtain ⟨j,hj,ej⟩:=mem_take_at hx
   obtain ⟨i,hi,ei⟩:=mem_take_at hy
   have:j=0:=by exact qGV hb hj
   subst this
   have h1:=g.sa 0 i (by exact qAZ) (by (exact Nat.zero_le _)) (at_lt ei)
   have h2:=g.first
   rw [arr_at ei] at h1
   rw [arr_at ej] at h2
   exact KeyOrd.kle_of_klt (KeyOrd.klt_of_klt_of_kle h2 h1)
  ·exact hq.2.2 x hx y hy
theorem ge_rest {i j:Nat} {x y:Keyed} {xs:Array Keyed} (h:Seg κ xs 0 xs.size) (hi:xs[i]?=some x) (hj:xs.toList[j]?=some y) (hij:j≤i):ple κ y x:=by
 have hi':xs.toList[i]?=some x:=by rw [Array.getElem?_toList];exact hi
 have:=h j i (by (exact Nat.zero_le _)) hij (at_lt hi')
 rw [KK_at hi,arr_at hj] at this
 exact this
theorem HInv.pushA (h:HInv κ a b out (na+1) nb) {x:Keyed} (hx:a[na]?=some x) (hle:∀ y∈b.toList.take nb,ple κ y x):HInv κ a b (out.push x) na nb:=by
 unfold HInv at h ⊢
 rw [Array.toList_push,List.reverse_append]
 rw [take_snoc' hx] at h
 exact h.moveA (by simpa using hle)
theorem HInv.pushB (h:HInv κ a b out na (nb+1)) {y:Keyed} (hy:b[nb]?=some y) (hle:∀ x∈a.toList.take na,ple κ x y):HInv κ a b (out.push y) na nb:=by
 unfold HInv at h ⊢
 rw [Array.toList_push,List.reverse_append]
 rw [take_snoc' hy] at h
 exact h.moveB (by simpa using hle)
noncomputable def FinH (κ:KeyKind) (a b:Array Keyed) (m:Nat) (r:Option (Array Keyed)) (na nb:Nat) (out:Array Keyed):Prop:=(∃ x,r=some x∧Mer κ a b x)∨(r=none∧HiI κ a b out na nb∧na+nb≤m)
theorem wpS_hi1 {st:SortSt} {mg m ac bc:Nat} {Q:ForInStep HiS1→SortSt→Prop} (hO:κ.OneLt) (g:MG κ a b) (hk:kindOf st=oneType') (hI:HiI κ a b out na nb) (hm:na+nb≤m+1)
  (hd:∀ c:HiS1,FinH κ a b m c.1 c.2.1 c.2.2.1 c.2.2.2.1→Q (.done c) st) (hy:∀ c:HiS1,c.1=none→HiI κ a b c.2.2.2.1 c.2.1 c.2.2.1→c.2.1+c.2.2.1≤m→Q (.yield c) st) :
  wpS (model prog w) A E s (hi1' a b mg na nb out ac bc) Q st:=by
 obtain ⟨hinv,hna,hnb,hla,hlb⟩:=hI
 obtain ⟨na,rfl⟩:∃ m,na=m+1:=⟨na - 1,(Nat.sub_add_cancel hna).symm⟩
 obtain ⟨nb,rfl⟩:∃ m,nb=m+1:=⟨nb - 1,(Nat.sub_add_cancel (Nat.le_of_lt hnb)).symm⟩
 unfold hi1'
 simp only [Nat.add_sub_cancel]
 obtain ⟨y,ey,ky',hKy⟩:=g.kb.at (i:=nb) hlb
 obtain ⟨x,ex,kx',hKx⟩:=g.ka.at (i:=na) hla
 refine wpS_bind (wpS_elem ey (wpS_bind (wpS_elem ex (wpS_bind (wpS_lt2 hO hk ky' kx' ?_)))))
 dsimp only
 cases hlt:κ.blt (ky κ y) (ky κ x) with
 | true =>
  simp only [if_true]
  refine wpS_bind (wpS_elem ex ?_)
  have hn:HInv κ a b (out.push x) na (nb+1):=HInv.pushA hinv ex fun z hz=>by
   obtain ⟨j,hj,ej⟩:=mem_take_at hz
   exact ple_trans (ge_rest g.sb ey ej (Nat.le_of_lt_succ hj)) (KeyOrd.kle_of_klt hlt)
  by_cases hE:na=0
  ·rw [if_pos (by simpa using hE)]
   exact wpS_pure (hd _ (.inl ⟨_,rfl,hdone_A hn hE⟩))
  ·rw [if_neg (by simpa using hE)]
   have hI':HiI κ a b (out.push x) na (nb+1):=⟨hn,Nat.pos_of_ne_zero hE,hnb,Nat.le_of_succ_le hla,hlb⟩
   split
   ·exact wpS_pure (hd _ (.inr ⟨rfl,hI',by dsimp only;exact qA9 hm⟩))
   ·exact wpS_pure (hy _ rfl hI' (by dsimp only;exact qA9 hm))
 | false =>
  simp only [Bool.false_eq_true,if_false]
  refine wpS_bind (wpS_elem ey ?_)
  have hn:HInv κ a b (out.push y) (na+1) nb:=HInv.pushB hinv ey fun z hz=>by
   obtain ⟨j,hj,ej⟩:=mem_take_at hz
   exact ple_trans (ge_rest g.sa ex ej (Nat.le_of_lt_succ hj)) (show ple κ x y from hlt)
  by_cases hE:nb=1
  ·rw [if_pos (by simpa using hE)]
   exact wpS_pure (hd _ (.inl ⟨_,rfl,hfirst g hn hE⟩))
  ·rw [if_neg (by simpa using hE)]
   have hI':HiI κ a b (out.push y) (na+1) nb:=⟨hn,hna,by exact qBG hnb hE,hla,Nat.le_of_succ_le hlb⟩
   split
   ·exact wpS_pure (hd _ (.inr ⟨rfl,hI',by dsimp only;exact qAu hm⟩))
   ·exact wpS_pure (hy _ rfl hI' (by dsimp only;exact qAu hm))
theorem wpS_hi2c {st:SortSt} {mg ac bc m:Nat} {Q:ForInStep HiS2→SortSt→Prop} (g:MG κ a b) (hI:HiI κ a b out na nb) (hm:na+nb≤m)
  (hle:∀ i,i < nb→κ.kle (KK κ b i) (KK κ a (na - 1)))
  (hd:∀ c:HiS2,FinH κ a b m c.1 c.2.1 c.2.2.1 c.2.2.2.1→Q (.done c) st) (hy:∀ c:HiS2,c.1=none→HiI κ a b c.2.2.2.1 c.2.1 c.2.2.1→c.2.1+c.2.2.1≤m→Q (.yield c) st) :
  wpS (model prog w) A E s (hi2c a b mg ac bc na nb out) Q st:=by
 obtain ⟨hinv,hna,hnb,hla,hlb⟩:=hI
 obtain ⟨na,rfl⟩:∃ m,na=m+1:=⟨na - 1,(Nat.sub_add_cancel hna).symm⟩
 unfold hi2c
 simp only [Nat.add_sub_cancel] at hle ⊢
 obtain ⟨x,ex,kx',hKx⟩:=g.ka.at (i:=na) hla
 refine wpS_bind (wpS_elem ex ?_)
 have hn:HInv κ a b (out.push x) na nb:=HInv.pushA hinv ex fun z hz=>by
  obtain ⟨j,hj,ej⟩:=mem_take_at hz
  have:=hle j hj
  rw [hKx,arr_at ej] at this
  exact this
 by_cases hE:na=0
 ·rw [if_pos (by simpa using hE)]
  exact wpS_pure (hd _ (.inl ⟨_,rfl,hdone_A hn hE⟩))
 ·rw [if_neg (by simpa using hE)]
  have hI':HiI κ a b (out.push x) na nb:=⟨hn,Nat.pos_of_ne_zero hE,hnb,Nat.le_of_succ_le hla,hlb⟩
  split
  ·exact wpS_pure (hd _ (.inr ⟨rfl,hI',by dsimp only;exact qBY hm⟩))
  ·exact wpS_pure (hy _ rfl hI' (by dsimp only;exact qBY hm))
theorem wpS_hi2b {st:SortSt} {mg ac bc m:Nat} {Q:ForInStep HiS2→SortSt→Prop} (hO:κ.OneLt) (hk:kindOf st=oneType') (g:MG κ a b) (hI:HiI κ a b out na nb) (hm:na+nb≤m)
  (hle:∀ i,i < na→κ.kle (KK κ a i) (KK κ b (nb - 1)))
  (hd:∀ c:HiS2,FinH κ a b m c.1 c.2.1 c.2.2.1 c.2.2.2.1→Q (.done c) st) (hy:∀ c:HiS2,c.1=none→HiI κ a b c.2.2.2.1 c.2.1 c.2.2.1→c.2.1+c.2.2.1≤m→Q (.yield c) st) :
  wpS (model prog w) A E s (hi2b a b mg ac bc nb na out) Q st:=by
 obtain ⟨hinv,hna,hnb,hla,hlb⟩:=hI
 obtain ⟨nb,rfl⟩:∃ m,nb=m+1:=⟨nb - 1,(Nat.sub_add_cancel (Nat.le_of_lt hnb)).symm⟩
 unfold hi2b
 simp only [Nat.add_sub_cancel] at hle ⊢
 obtain ⟨y,ey,ky',hKy⟩:=g.kb.at (i:=nb) hlb
 obtain ⟨x,ex,kx',hKx⟩:=g.ka.at (i:=na - 1) (Nat.lt_of_lt_of_le (Nat.sub_lt hna Nat.one_pos) hla)
 refine wpS_bind (wpS_elem ey ?_)
 have hn:HInv κ a b (out.push y) na nb:=HInv.pushB hinv ey fun z hz=>by
  obtain ⟨j,hj,ej⟩:=mem_take_at hz
  have:=hle j hj
  rw [hKy,arr_at ej] at this
  exact this
 by_cases hE:nb=1
 ·rw [if_pos (by simpa using hE)]
  exact wpS_pure (hd _ (.inl ⟨_,rfl,hfirst g hn hE⟩))
 ·rw [if_neg (by simpa using hE)]
  refine wpS_bind (wpS_elem ex (wpS_bind (wpS_gallopL hO hk g.kb (by exact qA0 hlb) kx' (seg_in g.sb (by exact qA0 hlb)) (by exact qHC hnb) fun k h1 h2 h3=>?_)))
  simp only [Nat.zero_add] at h2 h3
  dsimp only
  have hmv:HInv κ a b (out.push y++(b.extract k nb).reverse) na k:=by
   unfold HInv at hn ⊢
   rw [Array.toList_append,Array.toList_reverse,List.reverse_append,List.reverse_reverse]
   have e:(b.extract k nb).toList=(b.toList.drop k).take (nb - k):=by
    have:=ext_k b k (nb - k)
    rwa [Nat.add_sub_cancel' h1] at this
   rw [e]
   rw [take_split b.toList h1] at hn
   refine hn.moveB fun u hu v hv=>?_
   obtain ⟨j,j1,j2,ej⟩:=mem_cut_at hv
   obtain ⟨i,hi,ei⟩:=mem_take_at hu
   have:=h3 j (by omega) (by exact qA3 h1 j2)
   rw [arr_at ej] at this
   exact ple_trans (ge_rest g.sa ex ei (Nat.le_sub_one_of_lt hi)) this
  have hle2:∀ i,i < k→κ.kle (KK κ b i) (KK κ a (na - 1)):=fun i h4=>by
   rw [hKx];exact KeyOrd.kle_of_klt (h2 i h4)
  by_cases hk0:nb - k > 0
  ·rw [if_pos hk0]
   by_cases hE2:k=1
   ·rw [if_pos (by simpa using hE2)]
    exact wpS_pure (hd _ (.inl ⟨_,rfl,hfirst g hmv hE2⟩))
   ·rw [if_neg (by simpa using hE2)]
    by_cases hE3:k=0
    ·rw [if_pos (by simpa using hE3)]
     exact wpS_pure (hd _ (.inl ⟨_,rfl,hdone_B hmv hE3⟩))
    ·rw [if_neg (by simpa using hE3)]
     exact wpS_hi2c g ⟨hmv,hna,by exact qFN hE2 hE3,hla,by exact qDS hlb h1⟩ (by exact qCU hm h1) hle2 hd hy
  ·rw [if_neg hk0]
   have:k=nb:=by exact qBz h1 hk0
   subst this
   exact wpS_hi2c g ⟨hn,hna,by exact qBG hnb hE,hla,by exact qCi hlb⟩ (by exact qB4 hm) hle2 hd hy
theorem wpS_hi2a {st:SortSt} {mg ac bc m:Nat} {Q:ForInStep HiS2→SortSt→Prop} (hO:κ.OneLt) (hk:kindOf st=oneType') (g:MG κ a b) (hI:HiI κ a b out na nb) (hm:na+nb≤m)
  (hd:∀ (c:HiS2) st',Gs st st'→FinH κ a b m c.1 c.2.1 c.2.2.1 c.2.2.2.1→Q (.done c) st') (hy:∀ (c:HiS2) st',Gs st st'→c.1=none→HiI κ a b c.2.2.2.1 c.2.1 c.2.2.1→c.2.1+c.2.2.1≤m→Q (.yield c) st') :
  wpS (model prog w) A E s (hi2a a b na nb out ac bc mg) Q st:=by
 have ⟨hinv,hna,hnb,hla,hlb⟩:=hI
 unfold hi2a
 rw [setMinGallop'_eq]
 refine wpS_bind (wpS_modify ?_)
 have hG:=(Gs.refl st).set mg
 obtain ⟨y,ey,ky',hKy⟩:=g.kb.at (i:=nb - 1) (by exact qFq hnb hlb)
 refine wpS_bind (wpS_elem ey (wpS_bind (wpS_gallopR hO hk g.ka (by exact qAr hla) ky' (seg_in g.sa (by exact qAr hla)) (by exact qBh hna) fun k h1 h2 h3=>?_)))
 simp only [Nat.zero_add] at h2 h3
 dsimp only
 have hmv:HInv κ a b (out++(a.extract k na).reverse) k nb:=by
  unfold HInv at hinv ⊢
  rw [Array.toList_append,Array.toList_reverse,List.reverse_append,List.reverse_reverse]
  have e:(a.extract k na).toList=(a.toList.drop k).take (na - k):=by
   have:=ext_k a k (na - k)
   rwa [Nat.add_sub_cancel' h1] at this
  rw [e]
  rw [take_split a.toList h1] at hinv
  refine hinv.moveA fun u hu v hv=>?_
  obtain ⟨j,j1,j2,ej⟩:=mem_cut_at hv
  obtain ⟨i,hi,ei⟩:=mem_take_at hu
  have:=h3 j (by omega) (by exact qA3 h1 j2)
  rw [arr_at ej] at this
  exact ple_trans (ge_rest g.sb ey ei (by exact qDb hi)) (KeyOrd.kle_of_klt this)
 have hle2:∀ i,i < k→κ.kle (KK κ a i) (KK κ b (nb - 1)):=fun i h4=>by
  rw [hKy];exact h2 i h4
 by_cases hk0:na - k > 0
 ·rw [if_pos hk0]
  by_cases hE:k=0
  ·rw [if_pos (by simpa using hE)]
   exact wpS_pure (hd _ _ hG (.inl ⟨_,rfl,hdone_A hmv hE⟩))
  ·rw [if_neg (by simpa using hE)]
   exact wpS_hi2b hO hk g ⟨hmv,by exact qAw hE,hnb,by exact qFU hla h1,hlb⟩ (by exact qGk hm h1) hle2 (fun c=>hd c _ hG) fun c=>hy c _ hG
 ·rw [if_neg hk0]
  have:k=na:=by exact qBz h1 hk0
  subst this
  exact wpS_hi2b hO hk g hI hm hle2 (fun c=>hd c _ hG) fun c=>hy c _ hG
theorem wpS_hi0 {st:SortSt} {m:Nat} {c:HiS} {Q:ForInStep HiS→SortSt→Prop} (hO:κ.OneLt) (hk:kindOf st=oneType') (g:MG κ a b) (hI:HiI κ a b c.2.2.2.1 c.2.1 c.2.2.1) (hm:c.2.1+c.2.2.1≤m+1)
  (hd:∀ (d:HiS) st' x,Gs st st'→d.1=some x→Mer κ a b x→Q (.done d) st') (hy:∀ (d:HiS) st',Gs st st'→d.1=none→HiI κ a b d.2.2.2.1 d.2.1 d.2.2.1→d.2.1+d.2.2.1≤m→Q (.yield d) st') :
  wpS (model prog w) A E s (hi0 a b c) Q st:=by
 obtain ⟨c0,na,nb,out,mg⟩:=c
 dsimp only at hI hm
 have l1:=hI.la
 have l2:=hI.lb
 unfold hi0
 dsimp only
 refine wpS_bind (wpS_mono (wpS_forRange (I:=fun x d st'=>st'=st∧d.1=none∧HiI κ a b d.2.2.2.1 d.2.1 d.2.2.1∧d.2.1+d.2.2.1≤m+1∧d.2.1+d.2.2.1+x≤a.size+b.size)
  (Q:=fun d st'=>st'=st∧FinH κ a b m d.1 d.2.1 d.2.2.1 d.2.2.2.1) ?step ?fin ⟨rfl,rfl,hI,by dsimp only;omega,by dsimp only;exact qEm l1 l2⟩) ?post)
 case fin =>
  rintro d st' ⟨rfl,h1,h2,h3,h4⟩
  have:=h2.ha;have:=h2.hb
  omega
 case step =>
  rintro x d st' _ hx ⟨rfl,h1,h2,h3,h4⟩
  refine wpS_hi1 (m:=min m (a.size+b.size - x - 1)) hO g hk h2 (by have:=h2.ha;have:=h2.hb;exact qFD h3 h4) (fun e he=>⟨rfl,he.imp id fun ⟨e1,e2,e3⟩=>⟨e1,e2,by omega⟩⟩) fun e e1 e2 e3=>⟨rfl,e1,e2,by exact qDQ e3,by exact qGD hx e3⟩
 case post =>
  rintro ⟨r,na,nb,out,ac,bc⟩ st' ⟨rfl,h1 | h1⟩
  ·obtain ⟨x,rfl,hx⟩:=h1
   exact wpS_pure (hd _ _ x (.refl _) rfl hx)
  obtain ⟨rfl,hI,hm⟩:=h1
  dsimp only at hI hm ⊢
  refine wpS_bind (wpS_lift (wpAny_rule ⟨rfl,?_⟩))
  refine wpS_bind (wpS_mono (wpS_forRange (I:=fun x d st''=>Gs st' st''∧d.1=none∧HiI κ a b d.2.2.2.1 d.2.1 d.2.2.1∧d.2.1+d.2.2.1≤m)
   (Q:=fun d st''=>Gs st' st''∧FinH κ a b m d.1 d.2.1 d.2.2.1 d.2.2.2.1) ?step ?fin ⟨.refl _,rfl,hI,hm⟩) ?post)
  case fin =>
   rintro d st'' ⟨h0,h1,h2,h3⟩
   exact ⟨h0,.inr ⟨h1,h2,h3⟩⟩
  case step =>
   rintro x d st'' _ hx ⟨h0,h1,h2,h3⟩
   unfold hi2
   split
   ·exact wpS_hi2a hO (h0.kind.trans hk) g h2 h3 (fun c st3 hg hf=>⟨h0.trans hg,hf⟩) fun c st3 hg h4 h5 h6=>⟨h0.trans hg,h4,h5,h6⟩
   ·exact wpS_hi2a hO (h0.kind.trans hk) g h2 h3 (fun c st3 hg hf=>⟨h0.trans hg,hf⟩) fun c st3 hg h4 h5 h6=>⟨h0.trans hg,h4,h5,h6⟩
  case post =>
   rintro ⟨r,na,nb,out,mg,ac,bc⟩ st'' ⟨hg,h1 | h1⟩
   ·obtain ⟨x,rfl,hx⟩:=h1
    exact wpS_pure (hd _ _ x hg rfl hx)
   obtain ⟨rfl,hI,hm⟩:=h1
   dsimp only at hI hm ⊢
   rw [setMinGallop'_eq]
   exact wpS_bind (wpS_modify (wpS_pure (hy _ _ (hg.set _) rfl hI hm)))
theorem wpS_mergeHi {st:SortSt} {Q:Array Keyed→SortSt→Prop} (hO:κ.OneLt) (hk:kindOf st=oneType') (g:MG κ a b) (h:∀ r st',Gs st st'→Mer κ a b r→Q r st'):wpS (model prog w) A E s (mergeHi' a b) Q st:=by
 rw [mergeHi'_eq]
 refine wpS_bind (wpS_lift (wpAny_rule ⟨rfl,?_⟩))
 have hna:=g.na
 have hnb:=g.nb
 obtain ⟨x,ex,kx',hKx⟩:=g.ka.at (i:=a.size - 1) (by exact qBh hna)
 refine wpS_bind (wpS_elem ex ?_)
 have h0:HInv κ a b #[] (a.size - 1+1) b.size:=by
  have e1:a.toList.take (a.size - 1+1)=a.toList:=List.take_of_length_le (by simp;exact qCI)
  have e2:b.toList.take b.size=b.toList:=List.take_of_length_le (by simp)
  unfold HInv
  rw [e1,e2]
  exact ⟨by simp,by simpa using g.sa.pairwise,by simpa using g.sb.pairwise⟩
 have hn:HInv κ a b #[x] (a.size - 1) b.size:=HInv.pushA h0 ex fun z hz=>by
  obtain ⟨j,hj,ej⟩:=mem_take_at hz
  have h1:=g.last j (at_lt ej)
  rw [arr_at ej,hKx] at h1
  exact KeyOrd.kle_of_klt h1
 by_cases hE:a.size - 1=0
 ·rw [if_pos (by simpa using hE)]
  exact wpS_pure (h _ _ (.refl _) (hdone_A hn hE))
 ·rw [if_neg (by simpa using hE)]
  by_cases hE2:b.size=1
  ·rw [if_pos (by simpa using hE2)]
   exact wpS_pure (h _ _ (.refl _) (hfirst g hn hE2))
  ·rw [if_neg (by simpa using hE2)]
   refine wpS_bind (wpS_get ?_)
   refine wpS_bind (wpS_mono (wpS_forRange (I:=fun x d st'=>Gs st st'∧d.1=none∧HiI κ a b d.2.2.2.1 d.2.1 d.2.2.1∧d.2.1+d.2.2.1+x≤a.size+b.size)
    (Q:=fun d st'=>Gs st st'∧∃ x,d.1=some x∧Mer κ a b x) ?step ?fin ⟨.refl _,rfl,⟨hn,by dsimp only;exact qCy hE,by dsimp only;exact qB0 hnb hE2,by dsimp only;exact qD2,by dsimp only;exact qAj⟩,by dsimp only;exact qHF⟩) ?post)
   case fin =>
    rintro d st' ⟨h0,h1,h2,h3⟩
    have:=h2.ha;have:=h2.hb
    omega
   case step =>
    rintro x d st' _ hx ⟨h0,h1,h2,h3⟩
    have:=h2.ha;have:=h2.hb
    exact wpS_hi0 (m:=a.size+b.size - x - 1) hO (h0.kind.trans hk) g h2 (by exact qGf h3) (fun d st'' x hg e1 e2=>⟨h0.trans hg,x,e1,e2⟩) fun d st'' hg e1 e2 e3=>⟨h0.trans hg,e1,e2,by exact qD4 hx e3⟩
   case post =>
    rintro d st' ⟨h0,x,e1,e2⟩
    rw [e1]
    exact wpS_pure (h x _ h0 e2)
end
end Mine
namespace Mine
open PySem PyProof.Rows
noncomputable def lay (xs:Array Keyed) (sa:Nat) (ms:List Keyed):Array Keyed:=ms.zipIdx.foldl (fun a (x:Keyed×Nat)=>match x with | (p,j)=>a.setIfInBounds (sa+j) p) xs
theorem lay_gen (sa:Nat):∀ (ms:List Keyed) (k:Nat) (xs:Array Keyed),sa+k+ms.length≤xs.size→
  ((ms.zipIdx k).foldl (fun a (x:Keyed×Nat)=>match x with | (p,j)=>a.setIfInBounds (sa+j) p) xs).toList=xs.toList.take (sa+k)++ms++xs.toList.drop (sa+k+ms.length)
 | [],k,xs,h=>by simp
 | m :: ms,k,xs,h=>by
  rw [List.length_cons] at h
  rw [List.zipIdx_cons,List.foldl_cons,lay_gen sa ms (k+1) _ (by rw [Array.size_setIfInBounds];exact qGU h)]
  have hlt:sa+k < xs.toList.length:=by simp;(exact qGA h)
  rw [Array.toList_setIfInBounds]
  have e1:(xs.toList.set (sa+k) m).take (sa+(k+1))=xs.toList.take (sa+k)++[m]:=by
   rw [show sa+(k+1)=(sa+k)+1 by exact qEF,List.take_add_one,List.getElem?_set_self hlt,List.take_set_of_le (Nat.le_refl _)];rfl
  have e2:(xs.toList.set (sa+k) m).drop (sa+(k+1)+ms.length)=xs.toList.drop (sa+k+(m :: ms).length):=by
   rw [List.drop_set_of_lt (by exact qCZ)];congr 1;simp;(exact qDs)
  rw [e1,e2];simp
theorem lay_list {xs:Array Keyed} {sa:Nat} {ms:List Keyed} (h:sa+ms.length≤xs.size):(lay xs sa ms).toList=xs.toList.take sa++ms++xs.toList.drop (sa+ms.length):=lay_gen sa ms 0 xs (by (assumption))
noncomputable def mergeEnd (sa:Nat) (merged:Array Keyed):StateT SortSt Sem Bool:=do
 modify fun s=>setArr s (lay (arrOf s) sa merged.toList)
 let st ← get
 pure (failedOf st).isNone
noncomputable def mergeMid (s:SortSt) (sb nb sa na:Nat):StateT SortSt Sem Bool :=
 if (na == 0)=true then pure true
 else do
  let x ← elem' (arrOf s) (sa+na - 1)
  let r ← gallop' true x (arrOf s) sb nb (nb - 1)
  match r with
  | some nb =>
   if (nb == 0)=true then pure true
   else if na≤nb then do
    let merged ← mergeLo' ((arrOf s).extract sa sb) ((arrOf s).extract sb (sb+nb))
    mergeEnd sa merged
   else do
    let merged ← mergeHi' ((arrOf s).extract sa sb) ((arrOf s).extract sb (sb+nb))
    mergeEnd sa merged
  | _=>pure false
theorem mergeAt'_eq (i:Nat):mergeAt' i=(do
  let s ← get
  match ((pendingOf s)[i]?,(pendingOf s)[i+1]?) with
  | (some (sa,na,power),some (sb,nb,_))=>do
   set (SortSt.mk' (kindOf s) (arrOf s) (((pendingOf s).setIfInBounds i (sa,na+nb,power)).eraseIdxIfInBounds (i+1)) (gallopOf s) (failedOf s))
   let y ← elem' (arrOf s) sb
   let r ← gallop' false y (arrOf s) sa na 0
   match r with
   | some k=>mergeMid s sb nb (sa+k) (na - k)
   | _=>pure false
  | _=>liftM (unsupported "internal:list.sort.pending":Sem Bool)):=rfl
section
variable {prog:Program} {w:World} {A:Around} {E:Value→Shared→Prop} {s:Shared} {κ:KeyKind} {a₀:Array Keyed}
theorem wpS_set {σ:Type} {M:Model} {A:Around} {E:Value→Shared→Prop} {s:Shared} {x:σ} {Q:PUnit→σ→Prop} {st:σ} (h:Q ⟨⟩ x):wpS M A E s (set x:StateT σ Sem PUnit) Q st:=by
 unfold wpS;rw [StateT.run_set];exact wpAny_pure ⟨rfl,h⟩
theorem KK_extract {xs:Array Keyed} {i j k:Nat} (hj:j≤xs.size) (hk:i+k < j):KK κ (xs.extract i j) k=KK κ xs (i+k):=KK_congr (by rw [Array.getElem?_extract,if_pos (by exact qFZ hj hk)])
theorem wpS_mergeAt {st:SortSt} {i sa na sb nb pa pb:Nat} {Q:Bool→SortSt→Prop} (hO:κ.OneLt) (h0:KeysOf κ a₀) (hB:SB a₀ st)
  (e1:(pendingOf st)[i]?=some (sa,na,pa)) (e2:(pendingOf st)[i+1]?=some (sb,nb,pb)) (hab:sb=sa+na) (hsz:sb+nb≤a₀.size) (hna:1≤na) (hnb:1≤nb)
  (s1:Seg κ (arrOf st) sa (sa+na)) (s2:Seg κ (arrOf st) sb (sb+nb))
  (h:∀ st',SB a₀ st'→pendingOf st'=((pendingOf st).setIfInBounds i (sa,na+nb,pa)).eraseIdxIfInBounds (i+1)→Seg κ (arrOf st') sa (sa+(na+nb))→(∀ k,k < sa∨sa+(na+nb)≤k→(arrOf st')[k]?=(arrOf st)[k]?)→Q true st') :
  wpS (model prog w) A E s (mergeAt' i) Q st:=by
 subst hab
 have hK:AllK κ (arrOf st):=AllK.of fun p hp=>h0 p ((Array.perm_iff_toList_perm.mp hB.perm).mem_iff.mp hp)
 have hSz:=hB.size
 rw [mergeAt'_eq]
 refine wpS_bind (wpS_get ?_)
 rw [e1,e2]
 dsimp only
 refine wpS_bind (wpS_set ?_)
 obtain ⟨y,ey,ky',hKy⟩:=hK.at (i:=sa+na) (by exact qHK hnb hsz hSz)
 refine wpS_bind (wpS_elem ey (wpS_bind (wpS_gallopR hO hB.kind hK (by exact qA8 hsz hSz) ky' s1 (by (assumption)) fun k k1 k2 k3=>?_)))
 dsimp only
 unfold mergeMid
 have whole:∀ xs:Array Keyed,True:=fun _=>trivial
 have easy:(∀ p q,sa≤p→p < sa+na→sa+na≤q→q < sa+na+nb→κ.kle (KK κ (arrOf st) p) (KK κ (arrOf st) q))→Seg κ (arrOf st) sa (sa+(na+nb)):=fun hc p q h1 h2 h3=>by
  by_cases hq:q < sa+na
  ·exact s1 p q h1 h2 hq
  ·by_cases hp:p < sa+na
   ·exact hc p q h1 hp (by exact qBA hq) (by exact qAJ h3)
   ·exact s2 p q (by exact qBA hp) h2 (by exact qAJ h3)
 by_cases hE:na - k=0
 ·rw [if_pos (by simpa using hE)]
  refine wpS_pure (h _ ⟨hB.perm,hB.kind,hB.failed⟩ rfl (easy fun p q h1 h2 h3 h4=>?_) fun _ _=>rfl)
  have a1:=k2 (p - sa) (by exact qF1 hna hE h2)
  rw [Nat.add_sub_cancel' h1,← hKy] at a1
  exact KeyOrd.kle_trans a1 (s2 (sa+na) q (by exact qAU) h3 h4)
 ·rw [if_neg (by simpa using hE)]
  obtain ⟨x,ex,kx',hKx⟩:=hK.at (i:=sa+k+(na - k) - 1) (by exact qF4 hna hsz hSz k1)
  refine wpS_bind (wpS_elem ex (wpS_bind (wpS_gallopL hO hB.kind hK (by exact qDr hsz hSz) kx' s2 (by exact qDn hnb) fun m m1 m2 m3=>?_)))
  dsimp only
  by_cases hE2:m=0
  ·rw [if_pos (by simpa using hE2)]
   refine wpS_pure (h _ ⟨hB.perm,hB.kind,hB.failed⟩ rfl (easy fun p q h1 h2 h3 h4=>?_) fun _ _=>rfl)
   have a1:=m3 (q - (sa+na)) (by exact qC0 hE2) (by exact qHI hnb h4)
   rw [Nat.add_sub_cancel' h3,← hKx] at a1
   exact KeyOrd.kle_trans (s1 p (sa+k+(na - k) - 1) h1 (by exact qDD h2) (by exact qA1 hna k1)) a1
  ·rw [if_neg (by simpa using hE2)]
   have hXs:((arrOf st).extract (sa+k) (sa+na)).size=na - k:=by rw [Array.size_extract];(exact qF9 hsz hSz)
   have hYs:((arrOf st).extract (sa+na) (sa+na+m)).size=m:=by rw [Array.size_extract];(exact qB9 hsz hSz m1)
   have hXK:∀ j,j < na - k→KK κ ((arrOf st).extract (sa+k) (sa+na)) j=KK κ (arrOf st) (sa+k+j):=fun j hj=>KK_extract (by exact qA8 hsz hSz) (by exact qBF hj)
   have hYK:∀ j,j < m→KK κ ((arrOf st).extract (sa+na) (sa+na+m)) j=KK κ (arrOf st) (sa+na+j):=fun j hj=>KK_extract (by exact qDX hsz hSz m1) (by exact qE3 hj)
   have g:MG κ ((arrOf st).extract (sa+k) (sa+na)) ((arrOf st).extract (sa+na) (sa+na+m)):=by
    refine ⟨fun p hp=>hK p ?_,fun p hp=>hK p ?_,fun p q h1 h2 h3=>?_,fun p q h1 h2 h3=>?_,by exact qC4 hE hXs,by exact qEy hE2 hYs,?_,fun j hj=>?_⟩
    ·rw [Array.toList_extract,List.extract_eq_take_drop] at hp;exact List.mem_of_mem_drop (List.mem_of_mem_take hp)
    ·rw [Array.toList_extract,List.extract_eq_take_drop] at hp;exact List.mem_of_mem_drop (List.mem_of_mem_take hp)
    ·rw [hXs] at h3
     rw [hXK p (by exact qHG h2 h3),hXK q h3];exact s1 _ _ (by exact qEb) (by exact qBe h2) (by exact qBF h3)
    ·rw [hYs] at h3
     rw [hYK p (by exact qAk h2 h3),hYK q h3];exact s2 _ _ (by exact qGn) (by exact qBe h2) (by exact qCm m1 h3)
    ·rw [hXK 0 (by exact qHa hE),hYK 0 (by exact qAw hE2),Nat.add_zero,Nat.add_zero,hKy]
     exact k3 k (Nat.le_refl _) (by exact qCV hE)
    ·rw [hYs] at hj
     rw [hXs,hYK j hj,hXK _ (by exact qCf hE),show sa+k+(na - k - 1)=sa+k+(na - k) - 1 by exact qE1 hE,hKx]
     exact m2 j hj
   have fin:∀ (r:Array Keyed) (st₁:SortSt),Gs (SortSt.mk' (kindOf st) (arrOf st) (((pendingOf st).setIfInBounds i (sa,na+nb,pa)).eraseIdxIfInBounds (i+1)) (gallopOf st) (failedOf st)) st₁→Mer κ ((arrOf st).extract (sa+k) (sa+na)) ((arrOf st).extract (sa+na) (sa+na+m)) r→wpS (model prog w) A E s (mergeEnd (sa+k) r) Q st₁:=by
    intro r st₁ hG hM
    unfold mergeEnd
    refine wpS_bind (wpS_modify (wpS_bind (wpS_get (wpS_pure ?_))))
    have hf:failedOf st₁=none:=hG.failed.trans hB.failed
    have ha:arrOf st₁=arrOf st:=hG.arr
    rw [show (failedOf (setArr st₁ (lay (arrOf st₁) (sa+k) r.toList))).isNone=true from by rw [show failedOf (setArr st₁ (lay (arrOf st₁) (sa+k) r.toList))=failedOf st₁ from rfl,hf];rfl]
    have hrl:r.toList.length=na - k+m:=by
     rw [hM.1.length_eq,List.length_append,Array.length_toList,Array.length_toList,hXs,hYs]
    have hl:(lay (arrOf st) (sa+k) r.toList).toList=(arrOf st).toList.take (sa+k)++r.toList++(arrOf st).toList.drop (sa+na+m):=by
     rw [lay_list (by rw [hrl];exact qEB hsz hSz k1 m1),hrl];congr 2;(exact qDW k1)
    have hXl:((arrOf st).extract (sa+k) (sa+na)).toList=((arrOf st).toList.drop (sa+k)).take (na - k):=by
     have:=ext_k (arrOf st) (sa+k) (na - k)
     rwa [show sa+k+(na - k)=sa+na by exact qHW k1] at this
    have hsplit:(arrOf st).toList=(arrOf st).toList.take (sa+k)++(((arrOf st).extract (sa+k) (sa+na)).toList++((arrOf st).extract (sa+na) (sa+na+m)).toList)++(arrOf st).toList.drop (sa+na+m):=by
     rw [hXl,ext_k,List.append_assoc,List.append_assoc,← drop_split,show sa+na=sa+k+(na - k) by exact qGz k1,← drop_split,List.take_append_drop]
    have hperm:(lay (arrOf st) (sa+k) r.toList).Perm (arrOf st):=by
     rw [Array.perm_iff_toList_perm,hl]
     refine List.Perm.trans ?_ (List.Perm.of_eq hsplit.symm)
     exact List.Perm.append_right _ (List.Perm.append_left _ hM.1)
    have hsz':(lay (arrOf st) (sa+k) r.toList).size=a₀.size:=hperm.size_eq.trans hSz
    have hlen1:((arrOf st).toList.take (sa+k)).length=sa+k:=by rw [List.length_take,Array.length_toList];(exact qHD hsz hSz k1)
    have hlow:∀ j,j < sa+k→(lay (arrOf st) (sa+k) r.toList)[j]?=(arrOf st)[j]?:=fun j hj=>by
     rw [← Array.getElem?_toList,hl,List.append_assoc,List.getElem?_append_left (by exact qFn hlen1 hj),List.getElem?_take,if_pos hj,Array.getElem?_toList]
    have hmid:∀ j,j < na - k+m→(lay (arrOf st) (sa+k) r.toList)[sa+k+j]?=r[j]?:=fun j hj=>by
     rw [← Array.getElem?_toList,hl,List.append_assoc,List.getElem?_append_right (by exact qCA hlen1),hlen1,List.getElem?_append_left (by exact qGY hrl hj),Array.getElem?_toList];congr 1;(exact qDe)
    have hhigh:∀ j,sa+na+m≤j→(lay (arrOf st) (sa+k) r.toList)[j]?=(arrOf st)[j]?:=fun j hj=>by
     rw [← Array.getElem?_toList,hl,List.getElem?_append_right (by rw [List.length_append,hlen1,hrl];exact qD7 k1 hj),List.length_append,hlen1,hrl,List.getElem?_drop,Array.getElem?_toList];congr 1;(exact qHU k1 hj)
    rw [ha]
    refine h _ ⟨by rw [show arrOf (setArr st₁ (lay (arrOf st) (sa+k) r.toList))=lay (arrOf st) (sa+k) r.toList from rfl];exact hperm.trans hB.perm,hG.kind.trans hB.kind,hf⟩ hG.pend ?_ fun j hj=>?_
    ·show Seg κ (lay (arrOf st) (sa+k) r.toList) sa (sa+(na+nb))
     have hrs:r.size=na - k+m:=by rw [← Array.length_toList];exact hrl
     have hrK:∀ j,j < na - k+m→∃ z,r[j]?=some z∧KK κ (lay (arrOf st) (sa+k) r.toList) (sa+k+j)=ky κ z∧(z∈((arrOf st).extract (sa+k) (sa+na)).toList∨z∈((arrOf st).extract (sa+na) (sa+na+m)).toList):=fun j hj=>by
      have hj':j < r.size:=by exact qDB hrs hj
      refine ⟨r[j],getElem?_pos r j hj',?_,?_⟩
      ·rw [KK_congr (hmid j hj)];exact KK_at (getElem?_pos r j hj')
      ·exact List.mem_append.mp (hM.1.mem_iff.mp (by simp))
     have hbelow:∀ p j,sa≤p→p < sa+k→j < na - k+m→κ.kle (KK κ (arrOf st) p) (KK κ (lay (arrOf st) (sa+k) r.toList) (sa+k+j)):=fun p j h1 h2 hj=>by
      obtain ⟨z,ez,hz,hzm⟩:=hrK j hj
      rw [hz]
      rcases hzm with hzm | hzm
      ·rw [hXl] at hzm
       obtain ⟨q,q1,q2,eq⟩:=mem_cut_at hzm
       have:=s1 p q h1 (by exact qHl h2 q1) (by exact qDy k1 q2)
       rw [arr_at eq] at this;exact this
      ·rw [ext_k] at hzm
       obtain ⟨q,q1,q2,eq⟩:=mem_cut_at hzm
       have a1:=k2 (p - sa) (by exact qAl h1 h2)
       rw [Nat.add_sub_cancel' h1,← hKy] at a1
       have:=s2 (sa+na) q (by exact qAU) q1 (by exact qFo m1 q2)
       rw [arr_at eq] at this
       exact KeyOrd.kle_trans a1 this
     have habove:∀ q j,sa+na+m≤q→q < sa+(na+nb)→j < na - k+m→κ.kle (KK κ (lay (arrOf st) (sa+k) r.toList) (sa+k+j)) (KK κ (arrOf st) q):=fun q j h1 h2 hj=>by
      obtain ⟨z,ez,hz,hzm⟩:=hrK j hj
      rw [hz]
      rcases hzm with hzm | hzm
      ·rw [hXl] at hzm
       obtain ⟨p,q1,q2,eq⟩:=mem_cut_at hzm
       have a1:=m3 (q - (sa+na)) (by exact qDk h1) (by exact qDA hnb h2)
       rw [Nat.add_sub_cancel' (Nat.le_trans (Nat.le_add_right _ m) h1),← hKx] at a1
       have:=s1 p (sa+k+(na - k) - 1) (by exact qBs q1) (by exact qFz q2) (by exact qA1 hna k1)
       rw [arr_at eq] at this
       exact KeyOrd.kle_trans this a1
      ·rw [ext_k] at hzm
       obtain ⟨p,q1,q2,eq⟩:=mem_cut_at hzm
       have:=s2 p q (by (assumption)) (by exact qG6 h1 q2) (by exact qAJ h2)
       rw [arr_at eq] at this;exact this
     intro p q h1 h2 h3
     by_cases hp:p < sa+k
     ·rw [KK_congr (hlow p hp)]
      by_cases hq:q < sa+k
      ·rw [KK_congr (hlow q hq)];exact s1 p q h1 h2 (by exact qCq k1 hq)
      ·by_cases hq2:q < sa+na+m
       ·have:=hbelow p (q - (sa+k)) h1 hp (by exact qAi hE hq2)
        rwa [Nat.add_sub_cancel' (Nat.le_of_not_lt hq)] at this
       ·rw [KK_congr (hhigh q (by exact qAO hq2))]
        have a1:=k2 (p - sa) (by exact qAl h1 hp)
        rw [Nat.add_sub_cancel' h1,← hKy] at a1
        exact KeyOrd.kle_trans a1 (s2 (sa+na) q (by exact qAU) (by exact qBE hq2) (by exact qAJ h3))
     ·by_cases hq2:q < sa+na+m
      ·have hpj:p - (sa+k) < na - k+m:=by exact qGg hE h2 hq2
       have hqj:q - (sa+k) < na - k+m:=by exact qAi hE hq2
       have a1:=(Seg.of_pairwise hM.2) (p - (sa+k)) (q - (sa+k)) (Nat.zero_le _) (Nat.sub_le_sub_right h2 _) (by exact qCM hE hrs hq2)
       have e3:KK κ (lay (arrOf st) (sa+k) r.toList) p=KK κ r (p - (sa+k)):=KK_congr (by have:=hmid _ hpj;rwa [Nat.add_sub_cancel' (Nat.le_of_not_lt hp)] at this)
       have e4:KK κ (lay (arrOf st) (sa+k) r.toList) q=KK κ r (q - (sa+k)):=KK_congr (by have:=hmid _ hqj;rwa [Nat.add_sub_cancel' (Nat.le_trans (Nat.le_of_not_lt hp) h2)] at this)
       rw [e3,e4];exact a1
      ·rw [KK_congr (hhigh q (by exact qAO hq2))]
       by_cases hp2:p < sa+na+m
       ·have:=habove q (p - (sa+k)) (by exact qAO hq2) h3 (by exact qAi hE hp2)
        rwa [Nat.add_sub_cancel' (Nat.le_of_not_lt hp)] at this
       ·rw [KK_congr (hhigh p (by exact qAO hp2))];exact s2 p q (by exact qBE hp2) h2 (by exact qAJ h3)
    ·show (lay (arrOf st) (sa+k) r.toList)[j]?=(arrOf st)[j]?
     rcases hj with hj | hj
     ·exact hlow j (by exact qCr hj)
     ·exact hhigh j (by exact qHO m1 hj)
   split
   ·exact wpS_bind (wpS_mergeLo hO hB.kind g fun r st₁ hG hM=>fin r st₁ hG hM)
   ·exact wpS_bind (wpS_mergeHi hO hB.kind g fun r st₁ hG hM=>fin r st₁ hG hM)
end
end Mine
namespace Mine
open PySem PyProof.Rows
section
variable {κ:KeyKind} {xs ys:Array Keyed}
noncomputable def Chain (κ:KeyKind) (xs:Array Keyed):List (Nat×Nat×Nat)→Nat→Nat→Prop
 | [],a,b=>a=b
 | p :: t,a,b=>p.1=a∧1≤p.2.1∧Seg κ xs p.1 (p.1+p.2.1)∧Chain κ xs t (p.1+p.2.1) b
theorem Chain.len:∀ {l:List (Nat×Nat×Nat)} {a b:Nat},Chain κ xs l a b→a+l.length≤b
 | [],a,b,h=>by simp only [Chain] at h;simp;(exact qAS h)
 | p :: t,a,b,h=>by
  obtain ⟨h1,h2,_,h4⟩:=h
  have:=Chain.len h4
  simp only [List.length_cons];(exact qHb h1 h2 this)
theorem Chain.app:∀ {l m:List (Nat×Nat×Nat)} {a c:Nat},Chain κ xs (l++m) a c↔∃ b,Chain κ xs l a b∧Chain κ xs m b c
 | [],m,a,c=>⟨fun h=>⟨a,rfl,h⟩,fun ⟨b,h1,h2⟩=>by simp only [Chain] at h1;subst h1;exact h2⟩
 | p :: t,m,a,c=>by
  constructor
  ·rintro ⟨h1,h2,h3,h4⟩
   obtain ⟨b,h5,h6⟩:=Chain.app.mp h4
   exact ⟨b,⟨h1,h2,h3,h5⟩,h6⟩
  ·rintro ⟨b,⟨h1,h2,h3,h4⟩,h5⟩
   exact ⟨h1,h2,h3,Chain.app.mpr ⟨b,h4,h5⟩⟩
theorem Chain.congr:∀ {l:List (Nat×Nat×Nat)} {a b:Nat},Chain κ xs l a b→(∀ k,a≤k→k < b→ys[k]?=xs[k]?)→Chain κ ys l a b
 | [],a,b,h,_=>h
 | p :: t,a,b,h,e=>by
  obtain ⟨h1,h2,h3,h4⟩:=h
  have:=Chain.len h4
  exact ⟨h1,h2,h3.congr fun k k1 k2=>e k (by exact qGl h1 k1) (by exact qHc this k2),Chain.congr h4 fun k k1 k2=>e k (by exact qFx h1 k1) k2⟩
theorem Chain.same:∀ {l m:List (Nat×Nat×Nat)} {a b:Nat},l.map (fun x=>(x.1,x.2.1))=m.map (fun x=>(x.1,x.2.1))→Chain κ xs l a b→Chain κ xs m a b
 | [],[],_,_,_,h=>h
 | [],_ :: _,_,_,e,_=>by simp at e
 | _ :: _,[],_,_,e,_=>by simp at e
 | p :: l,q :: m,a,b,e,h=>by
  simp only [List.map_cons,List.cons.injEq,Prod.mk.injEq] at e
  obtain ⟨⟨e1,e2⟩,e3⟩:=e
  obtain ⟨h1,h2,h3,h4⟩:=h
  rw [e1] at h1 h3 h4;rw [e2] at h2 h3 h4
  exact ⟨h1,h2,h3,Chain.same e3 h4⟩
end
noncomputable def srPush (lo n:Nat):StateT SortSt Sem (ForInStep (Option Unit×Nat)):=do
 modify fun s=>setPending s ((pendingOf s).push (lo,n,0))
 pure (ForInStep.yield (none,lo+n))
noncomputable def srCollapse (size pw:Nat):StateT SortSt Sem (Option Unit×Unit) :=
 forIn [0:size] ((none,()):Option Unit×Unit) fun _ _=>do
  let st ← get
  match if (pendingOf st).size > 1 then (pendingOf st)[(pendingOf st).size - 2]? else none with
  | some (_,_,older) =>
   if older≤pw then pure (ForInStep.done (none,()))
   else do
    let ok ← mergeAt' ((pendingOf st).size - 2)
    if (!ok)=true then pure (ForInStep.done (some (),())) else pure (ForInStep.yield (none,()))
  | _=>pure (ForInStep.done (none,()))
noncomputable def srTail (size lo n:Nat):StateT SortSt Sem (ForInStep (Option Unit×Nat)):=do
 let st ← get
 match (pendingOf st).back? with
 | some (s1,n1,_)=>do
  let c ← srCollapse size (power' size (2 * s1+n1) (2 * s1+n1+n1+n) size)
  Break.runK.match_1 (fun _=>StateT SortSt Sem (ForInStep (Option Unit×Nat))) c.1 (fun r=>pure (ForInStep.done (some r,lo))) fun _=>do
   modify fun s=>setPending s ((pendingOf s).modify ((pendingOf s).size - 1) fun (st,len,_)=>(st,len,power' size (2 * s1+n1) (2 * s1+n1+n1+n) size))
   srPush lo n
 | _=>srPush lo n
noncomputable def srBody (size minrun:Nat) (lo:Nat):StateT SortSt Sem (ForInStep (Option Unit×Nat)) :=
 if lo≥size then pure (ForInStep.done (none,lo))
 else do
  let x ← countRun' lo (size - lo)
  match x with
  | some n =>
   if n < minrun then do
    liftM (rule "list.sort.binary-insertion")
    let ok ← binarySort' lo (min (size - lo) minrun) n
    if (!ok)=true then pure (ForInStep.done (some (),lo)) else srTail size lo (min (size - lo) minrun)
   else srTail size lo n
  | _=>pure (ForInStep.done (some (),lo))
noncomputable def srFinal (size:Nat):StateT SortSt Sem (Option Unit×Unit) :=
 forIn [0:size] ((none,()):Option Unit×Unit) fun _ _=>do
  let st ← get
  if (pendingOf st).size≤1 then pure (ForInStep.done (none,()))
  else do
   let ok ← mergeAt' (if ((if (pendingOf st).size - 2 > 0 then (pendingOf st)[(pendingOf st).size - 2 - 1]?.map (·.2.1) else none).any (fun x=>decide (x < ((pendingOf st)[(pendingOf st).size - 2+1]?.elim 0 (·.2.1)))))=true then (pendingOf st).size - 2 - 1 else (pendingOf st).size - 2)
   if (!ok)=true then pure (ForInStep.done (some (),())) else pure (ForInStep.yield (none,()))
theorem sortRunsM_eq:sortRuns'=(do
  let st ← get
  let c ← forIn [0:(arrOf st).size] ((none,0):Option Unit×Nat) fun _ c=>srBody (arrOf st).size (minRun' (arrOf st).size (arrOf st).size 0) c.2
  Break.runK.match_1 (fun _=>StateT SortSt Sem Unit) c.1 (fun r=>pure r) fun _=>do
   let c ← srFinal (arrOf st).size
   Break.runK.match_1 (fun _=>StateT SortSt Sem Unit) c.1 (fun r=>pure r) fun _=>pure ()):=rfl
section
variable {prog:Program} {w:World} {A:Around} {E:Value→Shared→Prop} {s:Shared} {κ:KeyKind} {a₀:Array Keyed}
theorem wpS_mergeC {st:SortSt} {i lo:Nat} {Q:Bool→SortSt→Prop} (hO:κ.OneLt) (h0:KeysOf κ a₀) (hB:SB a₀ st) (hC:Chain κ (arrOf st) (pendingOf st).toList 0 lo) (hlo:lo≤a₀.size) (hi:i+1 < (pendingOf st).size)
  (h:∀ st',SB a₀ st'→Chain κ (arrOf st') (pendingOf st').toList 0 lo→(pendingOf st').size+1=(pendingOf st).size→(∀ k,lo≤k→(arrOf st')[k]?=(arrOf st)[k]?)→Q true st') :
  wpS (model prog w) A E s (mergeAt' i) Q st:=by
 have hl:(pendingOf st).toList.length=(pendingOf st).size:=Array.length_toList
 have e1:(pendingOf st)[i]?=some (pendingOf st)[i]:=getElem?_pos _ _ (by exact qAM hi)
 have e2:(pendingOf st)[i+1]?=some (pendingOf st)[i+1]:=getElem?_pos (pendingOf st) (i+1) hi
 have esplit:(pendingOf st).toList=(pendingOf st).toList.take i++(pendingOf st)[i] :: (pendingOf st)[i+1] :: (pendingOf st).toList.drop (i+2):=by
  conv=>lhs;rw [← List.take_append_drop i (pendingOf st).toList]
  rw [List.drop_eq_getElem_cons (by exact qDu hi hl:i < (pendingOf st).toList.length),List.drop_eq_getElem_cons (by (assumption):i+1 < (pendingOf st).toList.length)]
  simp
 generalize (pendingOf st)[i]=pa at e1 esplit
 generalize (pendingOf st)[i+1]=pb at e2 esplit
 obtain ⟨sa,na,wa⟩:=pa
 obtain ⟨sb,nb,wb⟩:=pb
 have hC':=hC
 rw [esplit] at hC'
 obtain ⟨b,hc1,hc2⟩:=Chain.app.mp hC'
 obtain ⟨f1,f2,f3,g1,g2,g3,hc3⟩:=hc2
 dsimp only at f1 f2 f3 g1 g2 g3 hc3
 have hle1:=Chain.len hc1
 have hle2:=Chain.len hc3
 refine wpS_mergeAt hO h0 hB e1 e2 g1 (by exact qDN hlo hle2) f2 g2 f3 g3 fun st' hB' hp hs hout=>?_
 have htl:(pendingOf st').toList=(pendingOf st).toList.take i++(sa,na+nb,wa) :: (pendingOf st).toList.drop (i+2):=by
  rw [hp,Array.eraseIdxIfInBounds,dif_pos (by rw [Array.size_setIfInBounds];exact hi),Array.toList_eraseIdx,Array.toList_setIfInBounds]
  have hlen:((pendingOf st).toList.take i).length=i:=by rw [List.length_take];(exact qHN hi hl)
  conv=>lhs;rw [esplit]
  rw [List.set_append_right _ _ (by exact qAS hlen),hlen,Nat.sub_self,List.set_cons_zero,List.eraseIdx_append_of_length_le (by exact qFV hlen),hlen,show i+1 - i=1 by exact qEu]
  rfl
 refine h st' hB' ?_ ?_ fun k hk=>hout k (.inr (by exact qEQ g1 hle2 hk))
 ·rw [htl]
  refine Chain.app.mpr ⟨b,hc1.congr fun k k1 k2=>hout k (.inl (by exact qBo f1 k2)),f1,by dsimp only;exact qCu f2,hs,?_⟩
  dsimp only
  rw [show sa+(na+nb)=sb+nb by exact qDZ g1]
  exact hc3.congr fun k k1 k2=>hout k (.inr (by exact qCn g1 k1))
 ·have:=congrArg List.length htl
  rw [Array.length_toList,List.length_append,List.length_cons,List.length_take,List.length_drop] at this
  (exact qGb hi hl this)
theorem wpS_srPush {st:SortSt} {lo n:Nat} {Q:ForInStep (Option Unit×Nat)→SortSt→Prop} (hB:SB a₀ st) (hC:Chain κ (arrOf st) (pendingOf st).toList 0 lo) (hn:1≤n) (hs:Seg κ (arrOf st) lo (lo+n))
  (h:∀ st',SB a₀ st'→Chain κ (arrOf st') (pendingOf st').toList 0 (lo+n)→Q (.yield (none,lo+n)) st'):wpS (model prog w) A E s (srPush lo n) Q st:=by
 unfold srPush
 refine wpS_bind (wpS_modify (wpS_pure (h _ ⟨hB.perm,hB.kind,hB.failed⟩ ?_)))
 show Chain κ (arrOf st) ((pendingOf st).push (lo,n,0)).toList 0 (lo+n)
 rw [Array.toList_push]
 exact Chain.app.mpr ⟨lo,hC,rfl,hn,hs,rfl⟩
theorem wpS_srTail {st:SortSt} {lo n:Nat} {Q:ForInStep (Option Unit×Nat)→SortSt→Prop} (hO:κ.OneLt) (h0:KeysOf κ a₀) (hB:SB a₀ st) (hC:Chain κ (arrOf st) (pendingOf st).toList 0 lo) (hn:1≤n) (hle:lo+n≤a₀.size) (hs:Seg κ (arrOf st) lo (lo+n))
  (h:∀ st',SB a₀ st'→Chain κ (arrOf st') (pendingOf st').toList 0 (lo+n)→Q (.yield (none,lo+n)) st'):wpS (model prog w) A E s (srTail a₀.size lo n) Q st:=by
 unfold srTail
 refine wpS_bind (wpS_get ?_)
 cases hb:(pendingOf st).back? with
 | none=>exact wpS_srPush hB hC hn hs h
 | some p =>
  obtain ⟨s1,n1,w1⟩:=p
  dsimp only
  generalize power' a₀.size (2 * s1+n1) (2 * s1+n1+n1+n) a₀.size=pw
  unfold srCollapse
  refine wpS_bind (wpS_mono (wpS_forRange (I:=fun _ c st'=>c.1=none∧SB a₀ st'∧Chain κ (arrOf st') (pendingOf st').toList 0 lo∧Seg κ (arrOf st') lo (lo+n))
   (Q:=fun c st'=>c.1=none∧SB a₀ st'∧Chain κ (arrOf st') (pendingOf st').toList 0 lo∧Seg κ (arrOf st') lo (lo+n)) ?step (fun _ _ h=>h) ⟨rfl,hB,hC,hs⟩) ?post)
  case step =>
   rintro x c st' _ hx ⟨_,hB',hC',hs'⟩
   refine wpS_bind (wpS_get ?_)
   by_cases h1:(pendingOf st').size > 1
   ·rw [if_pos h1,getElem?_pos (pendingOf st') _ (by exact qHJ h1:(pendingOf st').size - 2 < (pendingOf st').size)]
    dsimp only
    split
    ·exact wpS_pure ⟨rfl,hB',hC',hs'⟩
    ·refine wpS_bind (wpS_mergeC hO h0 hB' hC' (by exact qBs hle) (by exact qDg h1) fun st2 b1 b2 b3 b4=>?_)
     simp only [Bool.not_true,Bool.false_eq_true,if_false]
     exact wpS_pure ⟨rfl,b1,b2,hs'.congr fun k k1 k2=>b4 k k1⟩
   ·rw [if_neg h1]
    exact wpS_pure ⟨rfl,hB',hC',hs'⟩
  case post =>
   rintro c st' ⟨e,hB',hC',hs'⟩
   rw [e]
   dsimp only
   refine wpS_bind (wpS_modify ?_)
   refine wpS_srPush (κ:=κ) ⟨hB'.perm,hB'.kind,hB'.failed⟩ ?_ hn hs' h
   refine Chain.same ?_ hC'
   show _=((pendingOf st').modify _ _).toList.map _
   rw [Array.toList_modify]
   refine List.ext_getElem? fun i=>?_
   rw [List.getElem?_map,List.getElem?_map,List.getElem?_modify]
   cases (pendingOf st').toList[i]? with
   | none=>simp
   | some q=>obtain ⟨a,b,c⟩:=q;simp only [Option.map_some];split <;> rfl
theorem wpS_srBody {st:SortSt} {lo mr:Nat} {Q:ForInStep (Option Unit×Nat)→SortSt→Prop} (hO:κ.OneLt) (h0:KeysOf κ a₀) (hB:SB a₀ st) (hC:Chain κ (arrOf st) (pendingOf st).toList 0 lo) (hlo:lo≤a₀.size)
  (hd:lo=a₀.size→Q (.done (none,lo)) st) (h:∀ n st',1≤n→lo+n≤a₀.size→SB a₀ st'→Chain κ (arrOf st') (pendingOf st').toList 0 (lo+n)→Q (.yield (none,lo+n)) st'):wpS (model prog w) A E s (srBody a₀.size mr lo) Q st:=by
 unfold srBody
 by_cases hge:lo≥a₀.size
 ·rw [if_pos hge];exact wpS_pure (hd (by exact qAe hlo hge))
 ·rw [if_neg hge]
  refine wpS_bind (wpS_countRunL hO h0 (by exact qFT hlo) (by exact qGF hge) hB fun m st1 hM hm1 hm2 hs=>?_)
  dsimp only
  have hC1:Chain κ (arrOf st1) (pendingOf st1).toList 0 lo:=by rw [hM.pend];exact hC.congr fun k k1 k2=>hM.out k (.inl k2)
  split
  ·rename_i hlt
   refine wpS_bind (wpS_lift (wpAny_rule ⟨rfl,?_⟩))
   refine wpS_bind (wpS_binarySortL hO h0 (by exact qAb hlo) (by exact qHE hm2 hlt) hM.sb hs fun st2 hM2 hs2=>?_)
   simp only [Bool.not_true,Bool.false_eq_true,if_false]
   have hC2:Chain κ (arrOf st2) (pendingOf st2).toList 0 lo:=by rw [hM2.pend];exact hC1.congr fun k k1 k2=>hM2.out k (.inl k2)
   exact wpS_srTail hO h0 hM2.sb hC2 (by exact qA7 hge hlt) (by exact qAb hlo) hs2 fun st3 b1 b2=>h _ st3 (by exact qA7 hge hlt) (by exact qAb hlo) b1 b2
  ·exact wpS_srTail hO h0 hM.sb hC1 hm1 (by exact qA5 hlo hm2) hs fun st3 b1 b2=>h _ st3 hm1 (by exact qA5 hlo hm2) b1 b2
theorem wpS_sortRunsL {st:SortSt} {Q:Unit→SortSt→Prop} (hO:κ.OneLt) (h0:KeysOf κ a₀) (hB:SB a₀ st) (hp:pendingOf st = #[])
  (h:∀ st',(arrOf st').Perm a₀→failedOf st'=none→SortedToK κ (arrOf st') a₀.size→Q () st'):wpS (model prog w) A E s sortRuns' Q st:=by
 rw [sortRunsM_eq]
 refine wpS_bind (wpS_get ?_)
 rw [hB.size]
 refine wpS_bind (wpS_mono (wpS_forRange (I:=fun x c st'=>∃ lo,c=(none,lo)∧SB a₀ st'∧Chain κ (arrOf st') (pendingOf st').toList 0 lo∧lo≤a₀.size∧x≤lo)
  (Q:=fun c st'=>c.1=none∧SB a₀ st'∧Chain κ (arrOf st') (pendingOf st').toList 0 a₀.size) ?step ?fin ⟨0,rfl,hB,by rw [hp];rfl,by (exact Nat.zero_le _),by exact qAZ⟩) ?post)
 case fin =>
  rintro c st' ⟨lo,rfl,b1,b2,b3,b4⟩
  have:lo=a₀.size:=by exact qHA b3 b4
  subst this
  exact ⟨rfl,b1,b2⟩
 case step =>
  rintro x c st' _ hx ⟨lo,rfl,b1,b2,b3,b4⟩
  exact wpS_srBody hO h0 b1 b2 b3 (fun e=>⟨rfl,b1,by have e':lo=a₀.size:=e;rw [e'] at b2;exact b2⟩) fun n st2 c1 c2 c3 c4=>⟨lo+n,rfl,c3,c4,c2,by exact qCP b4 c1⟩
 case post =>
  rintro c st' ⟨e,b1,b2⟩
  rw [e]
  dsimp only
  unfold srFinal
  have hlen:=Chain.len b2
  rw [Array.length_toList] at hlen
  refine wpS_bind (wpS_mono (wpS_forRange (I:=fun x c st2=>c.1=none∧SB a₀ st2∧Chain κ (arrOf st2) (pendingOf st2).toList 0 a₀.size∧(pendingOf st2).size+x≤a₀.size)
   (Q:=fun c st2=>c.1=none∧SB a₀ st2∧Chain κ (arrOf st2) (pendingOf st2).toList 0 a₀.size∧(pendingOf st2).size≤1) ?step ?fin ⟨rfl,b1,b2,by exact qHq hlen⟩) ?post)
  case fin =>
   rintro c st2 ⟨c1,c2,c3,c4⟩
   exact ⟨c1,c2,c3,by exact qFQ c4⟩
  case step =>
   rintro x c st2 _ hx ⟨c1,c2,c3,c4⟩
   refine wpS_bind (wpS_get ?_)
   by_cases hle:(pendingOf st2).size≤1
   ·rw [if_pos hle];exact wpS_pure ⟨rfl,c2,c3,hle⟩
   ·rw [if_neg hle]
    refine wpS_bind (wpS_mergeC hO h0 c2 c3 (Nat.le_refl _) (by (repeat' split) <;> lia) fun st3 d1 d2 d3 d4=>?_)
    simp only [Bool.not_true,Bool.false_eq_true,if_false]
    exact wpS_pure ⟨rfl,d1,d2,by exact qDh c4 d3⟩
  case post =>
   rintro c st2 ⟨c1,c2,c3,c4⟩
   rw [c1]
   refine wpS_pure (h st2 c2.perm c2.failed ?_)
   cases hl:(pendingOf st2).toList with
   | nil =>
    rw [hl] at c3
    simp only [Chain] at c3
    intro i j h1 h2;lia
   | cons p t =>
    have:t=[]:=by
     have:=congrArg List.length hl
     rw [Array.length_toList,List.length_cons] at this
     exact List.eq_nil_of_length_eq_zero (by exact qEU c4 this)
    subst this
    rw [hl] at c3
    obtain ⟨f1,f2,f3,f4⟩:=c3
    simp only [Chain] at f4
    rw [f1] at f3 f4
    intro i j h1 h2
    exact f3 i j (by (exact Nat.zero_le _)) h1 (by exact qFy f4 h2)
end
end Mine
namespace Mine
open PySem PyProof.Rows
section
variable {prog:Program} {w:World} {A:Around} {E:Value→Shared→Prop} {s:Shared}
noncomputable def sortLine:Nat:=sizeLine
theorem sort_size {n:Nat} (h:n≤sortLine):n≤sizeLine:=h
theorem small_sort {n:Nat} (h:n≤100000):n≤sortLine:=Nat.le_trans h (by show _≤sizeLine;rw [sizeLine_eq];decide)
theorem list_sort_any {κ:KeyKind} (hO:κ.OneLt) {a:Addr} {vs:List Value} {n:Nat} {P:Fin→Shared→Prop} (ho:s.heap.get? a=some (seqObj "list" vs.toArray n))
  (h0:KeysOf κ (pairsOf vs)) (hkk:∀ v₁ v₂ rest,vs=v₁ :: v₂ :: rest→keyKind' (v₁ :: v₂ :: rest).toArray=pure oneType') (hn:vs.length≤sortLine)
  (h:∀ st':SortSt,(arrOf st').Perm (pairsOf vs)→SortedToK κ (arrOf st') (pairsOf vs).size→P (.done (.ret .none)) { s with heap:=sortedHeap s.heap a vs ((arrOf st').map (·.2)) }) :
  wpAny (model prog w) A (Builtin.«list.sort» ⟨[.ref a],[]⟩) P E s:=by
 replace hn:=sort_size hn
 by_cases h2:vs.length < 2
 ·exact list_sort_treeK hO ho h0 hkk (by exact qDt h2) h
 obtain ⟨v₁,v₂,rest,rfl⟩:∃ v₁ v₂ rest,vs=v₁ :: v₂ :: rest:=by
  match vs,h2 with
  | [],h2=>simp at h2
  | [_],h2=>simp at h2
  | v₁ :: v₂ :: rest,_=>exact ⟨v₁,v₂,rest,rfl⟩
 generalize hvs:v₁ :: v₂ :: rest=vs at *
 have hk2:=hkk v₁ v₂ rest hvs.symm
 rw [hvs] at hk2
 have hlt:a < s.heap.objs.size:=Heap.lt_size ho
 have hsz:¬ vs.toArray.size < 2:=by simpa using h2
 rw [list_sort_plain]
 refine wpAny_bind (listItems_at ho rfl (wpAny_bind (listUpdate_at ho rfl ?_ (by simpa using hn) (by simp))))
 obtain ⟨e1,ho1⟩:∃ e1,(s.heap.update a (Obj.mapSeq fun _=>#[])).get? a=some (seqObj "list" #[] e1):=⟨_,get?_update_seq ho (fun _=>#[])⟩
 refine wpAny_bind (seqEpoch_at ho1 rfl (wpAny_bind (wpAny_newTuple (wpAny_bind (wpAny_newList (wpAny_holding ?_))) (by simpa using hn))))
 have ho2:(((s.heap.update a (Obj.mapSeq fun _=>#[])).push (seqObj "tuple" vs.toArray 0)).push (seqObj "list" #[] 0)).get? a=some (seqObj "list" #[] e1):=by
  rw [Heap.get?_push_ne _ _ _ (by rw [size_push',Heap.size_update];exact Nat.ne_of_lt (Nat.lt_succ_of_lt hlt)),Heap.get?_push_ne _ _ _ (by rw [Heap.size_update];exact Nat.ne_of_lt hlt)]
  exact ho1
 show wpAny (model prog w) A _ P E { s with heap:=((s.heap.update a (Obj.mapSeq fun _=>#[])).push (seqObj "tuple" vs.toArray 0)).push (seqObj "list" #[] 0) }
 dsimp only
 rw [if_neg hsz,if_neg hsz,hk2]
 refine wpAny_bind (wpAny_pure (wpAny_bind (wpAny_mono (wpS_sortRunsL (κ:=κ) hO (a₀:=pairsOf vs) (st:=SortSt.mk' oneType' (vs.toArray.zip vs.toArray) #[] 7 none)
  (Q:=fun _ st'=>(arrOf st').Perm (pairsOf vs)∧failedOf st'=none∧SortedToK κ (arrOf st') (pairsOf vs).size) h0 ⟨Array.Perm.refl _,rfl,rfl⟩ rfl fun st' a1 a2 a3=>⟨a1,a2,a3⟩) ?_ fun _ _ e=>e)))
 rintro ⟨⟨⟩,st'⟩ s' ⟨rfl,hp,hf,hs⟩
 dsimp only
 have hout:((arrOf st').map (·.2)).size=vs.length:=by rw [Array.size_map,hp.size_eq,pairsOf_size]
 refine wpAny_bind (seqEpoch_at ho2 rfl (wpAny_bind (listUpdate_at ho2 rfl ?_ (hsz2:=by rw [hout];exact qCe hn))))
 rw [hf]
 simp only [bne_self_eq_false,Bool.false_eq_true,if_false]
 exact wpAny_pure (h st' hp hs)
end
end Mine
namespace Mine
open PySem PySem.W PySem.Calls PyProof.Rows
section
variable {prog:Program} {w:World} {B:Shared} {mg mb:Str→Option Value} {φ φ':List Addr} {σ σ':List AObj} {s s':Shared} {env:Env} {ρ l:List (Str×V)} {A:Around} {X:XT} {Q:V→List AObj→Prop}
theorem vals_of {h:Heap}:∀ {xs:List V} {vs:List Value},vs.length=xs.length→(∀ (i:Nat) (x:V) (v:Value),xs[i]?=some x→vs[i]?=some v→Val φ h x v)→Vals φ h xs vs
 | [],[],_,_=>.nil
 | [],_ :: _,e,_=>by simp at e
 | _ :: _,[],e,_=>by simp at e
 | x :: xs,v :: vs,e,f=>.cons (f 0 x v rfl rfl) (vals_of (by simpa using e) fun i y u h1 h2=>f (i+1) y u h1 h2)
theorem St.newList {h':Heap} {tk:Nat} {c:Addr} {xs:List V} {items:Array Value} {n:Nat} (G:St prog w B φ σ s) (hc:s.heap.objs.size≤c) (hk:∀ b o,s.heap.get? b=some o→h'.get? b=some o) (ho:h'.get? c=some { cls:=.type "list",data:=.seq items n }) (hv:Vals φ h' xs items.toList) :
  Step [] φ s.heap (φ++[c]) h'∧St prog w B (φ++[c]) (σ++[.list xs]) { s with heap:=h',toks:=tk }∧Val (φ++[c]) h' (.ref σ.length) (.ref c):=by
 have hcφ:c∉φ:=fun hm=>by
  obtain ⟨o,e⟩:=G.there hm
  exact absurd (Heap.lt_size e) (Nat.not_lt.mpr hc)
 have hcs:c≠sysModules:=fun e=>by
  obtain ⟨⟨o,ho⟩,_⟩:=G.sys
  have:=Heap.lt_size (G.base _ _ ho)
  rw [e] at hc
  exact absurd (Nat.lt_of_lt_of_le this hc) (by decide)
 refine ⟨Step.alloc (s':={ s with heap:=h' }) (get?_of_ge hc) hk,G.alloc (s':={ s with heap:=h',toks:=tk }) (ob:=.list xs) (get?_of_ge hc) hk ⟨items,n,ho,Vals.mono (List.prefix_append _ _) (fun _ _ e _=>e) xs hv⟩ hcφ hcs,?_⟩
 rw [Val,← G.len]
 exact ⟨_,rfl,by simp⟩
theorem St.newList2 {h₁ h':Heap} {tk:Nat} {c:Addr} {xs:List V} {items:Array Value} {n:Nat} (G:St prog w B φ σ s) (hk1:∀ b o,s.heap.get? b=some o→h₁.get? b=some o) (hc:h₁.objs.size≤c) (hk:∀ b o,s.heap.get? b=some o→h'.get? b=some o) (ho:h'.get? c=some { cls:=.type "list",data:=.seq items n }) (hv:Vals φ h' xs items.toList) :
  Step [] φ s.heap (φ++[c]) h'∧St prog w B (φ++[c]) (σ++[.list xs]) { s with heap:=h',toks:=tk }∧Val (φ++[c]) h' (.ref σ.length) (.ref c):=by
 have hnone:s.heap.get? c=none:=by
  cases e:s.heap.get? c with
  | none=>rfl
  | some o=>exact absurd (Heap.lt_size (hk1 c o e)) (Nat.not_lt.mpr hc)
 have hcφ:c∉φ:=fun hm=>by
  obtain ⟨o,e⟩:=G.there hm
  rw [hnone] at e;cases e
 have hcs:c≠sysModules:=fun e=>by
  obtain ⟨⟨o,ho⟩,_⟩:=G.sys
  have:=Heap.lt_size (hk1 _ _ (G.base _ _ ho))
  rw [e] at hc
  exact absurd (Nat.lt_of_lt_of_le this hc) (by decide)
 refine ⟨Step.alloc (s':={ s with heap:=h' }) hnone hk,G.alloc (s':={ s with heap:=h',toks:=tk }) (ob:=.list xs) hnone hk ⟨items,n,ho,Vals.mono (List.prefix_append _ _) (fun _ _ e _=>e) xs hv⟩ hcφ hcs,?_⟩
 rw [Val,← G.len]
 exact ⟨_,rfl,by simp⟩
theorem St.newListS {s₂:Shared} {c:Addr} {xs:List V} {items:Array Value} {n:Nat} (G:St prog w B φ σ s) (hc:s.heap.objs.size≤c) (hk:∀ b o,s.heap.get? b=some o→s₂.heap.get? b=some o) (hg:s₂.gens=s.gens) (hos:s₂.os=s.os) (ho:s₂.heap.get? c=some { cls:=.type "list",data:=.seq items n }) (hv:Vals φ s₂.heap xs items.toList) :
  Step [] φ s.heap (φ++[c]) s₂.heap∧St prog w B (φ++[c]) (σ++[.list xs]) s₂∧Val (φ++[c]) s₂.heap (.ref σ.length) (.ref c):=by
 obtain ⟨t,G',hv'⟩:=G.newList (tk:=s.toks) (h':=s₂.heap) hc hk ho hv
 exact ⟨t,⟨G'.base,G'.new,G'.nodup,G'.len,G'.objs,hg.trans G.gens,hos.trans G.os,G'.sys⟩,hv'⟩
theorem C_list_dict {k:Nat} {es:List (Key×V)} {e:Option Nat} (hh:A.handled=none) (hσ:σ[k]?=some (.dict es e)) (hl:es.length≤sizeLine) (q:Q (.ref σ.length) (σ++[.list (es.map fun p=>p.1.v)])):WC prog w B A (.type "list") [.ref k] σ Q X:=fun φ s vs G FR hv=>by
 obtain ⟨v,rfl,hx⟩:=hv.one
 obtain ⟨a,rfl,ha⟩:=hx.of_ref
 obtain ⟨a',ha',kvs,ep,hd,hvs,_⟩:=G.get hσ
 rw [ha] at ha';cases ha'
 refine src_list (src_dict (kvs:=kvs) (ep:=ep) (G.notSys (List.mem_of_getElem? ha))) hh hd (by rw [hvs.length];exact hl) fun s' acc c hk hg hos ho hacc=>?_
 have hV:Vals φ s'.heap (es.map fun p=>p.1.v) acc.toList:=by
  refine vals_of (by rw [hacc.1,hvs.length,List.length_map]) fun i x v hx hv=>?_
  obtain ⟨key,y,h1,h2⟩:=hacc.2 i v hv
  have hk':=congrArg (fun l=>l[i]?) hvs.keys
  simp only [List.getElem?_map,h1,Option.map_some] at hk'
  rw [List.getElem?_map] at hx
  cases hp:es[i]? with
  | none=>rw [hp] at hx;cases hx
  | some p =>
   rw [hp] at hx hk'
   simp only [Option.map_some,Option.some.injEq] at hx hk'
   subst hx hk'
   exact Key.val h2
 obtain ⟨t,G',hv'⟩:=G.newListS (xs:=es.map fun p=>p.1.v) (Nat.le_refl _) hk hg hos ho hV
 exact ⟨_,_,t,G',_,hv',q⟩
end
noncomputable def leS (a b:Str):Bool:=!decide (b.cps.toList < a.cps.toList)
noncomputable def srt (l:List Str):List Str:=l.mergeSort leS
theorem leS_total (a b:Str):(leS a b || leS b a)=true:=by
 unfold leS
 cases h:decide (b.cps.toList < a.cps.toList) with
 | false=>rfl
 | true =>
  have:=KeyOrd.klt_asymm (O:=PyProof.Rows.strKind.toKeyOrd) (a:=b.cps.toList) (b:=a.cps.toList) h
  have h2:decide (a.cps.toList < b.cps.toList)=false:=this
  rw [h2];rfl
theorem leS_trans (a b c:Str) (h1:leS a b=true) (h2:leS b c=true):leS a c=true:=by
 unfold leS at *
 have e1:decide (b.cps.toList < a.cps.toList)=false:=by simpa using h1
 have e2:decide (c.cps.toList < b.cps.toList)=false:=by simpa using h2
 have:=KeyOrd.kle_trans (O:=PyProof.Rows.strKind.toKeyOrd) (a:=a.cps.toList) (b:=b.cps.toList) (c:=c.cps.toList) e1 e2
 have e3:decide (c.cps.toList < a.cps.toList)=false:=this
 rw [e3];rfl
theorem leS_antisymm (a b:Str) (h1:leS a b=true) (h2:leS b a=true):a=b:=by
 unfold leS at *
 have e1:decide (b.cps.toList < a.cps.toList)=false:=by simpa using h1
 have e2:decide (a.cps.toList < b.cps.toList)=false:=by simpa using h2
 have:=KeyOrd.kle_antisymm (O:=PyProof.Rows.strKind.toKeyOrd) (a:=a.cps.toList) (b:=b.cps.toList) e1 e2
 obtain ⟨⟨x⟩⟩:=a;obtain ⟨⟨y⟩⟩:=b
 simp at this;subst this;rfl
theorem sorted_unique:∀ {l m:List Str},l.Perm m→l.Pairwise (fun a b=>leS a b=true)→m.Pairwise (fun a b=>leS a b=true)→l=m
 | [],m,hp,_,_=>(List.nil_perm.mp hp).symm
 | a :: l,[],hp,_,_=>by have:=hp.length_eq;simp at this
 | a :: l,b :: m,hp,h1,h2=>by
  have hab:a=b:=by
   rw [List.pairwise_cons] at h1 h2
   rcases List.mem_cons.mp (hp.subset (List.mem_cons_self)) with e | hm
   ·exact e
   ·rcases List.mem_cons.mp (hp.symm.subset (List.mem_cons_self)) with e | hm'
    ·exact e.symm
    ·exact leS_antisymm _ _ (h1.1 b hm') (h2.1 a hm)
  subst hab
  rw [sorted_unique (List.Perm.cons_inv hp) (List.pairwise_cons.mp h1).2 (List.pairwise_cons.mp h2).2]
theorem srt_perm (l:List Str):(srt l).Perm l:=List.mergeSort_perm l leS
theorem srt_sorted (l:List Str):(srt l).Pairwise (fun a b=>leS a b=true):=List.pairwise_mergeSort leS_trans leS_total l
theorem ltCps_lt:∀ a b:List Nat,PySem.Spec.ltCps a b=decide (a < b)
 | [],[]=>by simp [PySem.Spec.ltCps]
 | [],b :: t=>by simp [PySem.Spec.ltCps]
 | a :: r,[]=>by simp [PySem.Spec.ltCps]
 | a :: r,b :: t=>by
  rw [PySem.Spec.ltCps,StrLaws.lt_cons_cons,ltCps_lt r t]
theorem risingS_pairwise:∀ (p:Str) (l:List Str),risingS p l=true→(p :: l).Pairwise (fun a b=>leS a b=true)
 | p,[],_=>by simp
 | p,x :: r,h=>by
  have h':(!PySem.Spec.ltCps x.cps.toList p.cps.toList && risingS x r)=true:=h
  rw [ltCps_lt,Bool.and_eq_true] at h'
  have ih:=risingS_pairwise x r h'.2
  refine List.pairwise_cons.mpr ⟨fun y hy=>?_,ih⟩
  rcases List.mem_cons.mp hy with rfl | hy
  ·exact h'.1
  ·exact leS_trans p x y h'.1 ((List.pairwise_cons.mp ih).1 y hy)
theorem sortedS_pairwise:∀ (l:List Str),sortedS l=true→l.Pairwise (fun a b=>leS a b=true)
 | [],_=>.nil
 | x :: r,h=>risingS_pairwise x r h
theorem sortedS_eq {l m:List Str} (hp:l.Perm m) (h:sortedS l=true):l=srt m :=
 sorted_unique (hp.trans (srt_perm m).symm) (sortedS_pairwise l h) (srt_sorted m)
section
variable {prog:Program} {w:World} {B:Shared} {φ φ':List Addr} {σ σ':List AObj} {s s':Shared} {A:Around} {X:XT} {Q:V→List AObj→Prop}
theorem StrsAre.vals {h:Heap}:∀ {vs:List Value} {ss:List Str},StrsAre vs ss→Vals φ h (ss.map V.str) vs
 | _,_,.nil=>.nil
 | _,_,.cons x t r=>.cons (.str_ _ _) (StrsAre.vals r)
noncomputable def keyS:Key→Str
 | .s x=>x
 | .i _=>⟨#[]⟩
theorem srt_congr {l m:List Str} (h:l.Perm m):srt l=srt m:=sorted_unique ((srt_perm l).trans (h.trans (srt_perm m).symm)) (srt_sorted l) (srt_sorted m)
theorem sorted_src {T:String} {r:Addr} {n:Nat} {Good:List Value→Prop} {OK:Heap→Prop} {ss:List Str} (K:Src prog w T r n Good OK) (hh:A.handled=none) (G:St prog w B φ σ s) (hok:OK s.heap) (hn:n≤sortLine) (hlen:ss.length=n)
  (hgood:∀ vs,Good vs→∃ l,StrsAre vs l∧l.Perm ss) (q:Q (.ref σ.length) (σ++[.list ((srt ss).map V.str)])) :
  wpAny (model prog w) A (call (.builtin "sorted") [.ref r]) (Post prog w B [] φ s (vQ Q)) (Post prog w B [] φ s X) s:=by
 refine Calls.call_function_entry kind_sorted plain_sorted entry_sorted (args_sorted1 _) ?_
 unfold Builtin.«sorted»
 refine wpAny_bind (m:=checkCount "sorted" 1 1 _) (wpAny_pure ?_)
 refine wpAny_bind (src_collect (A:=A.in1) K hh hok (sort_size hn) fun s₁ acc hk hg₁ ho₁ hacc=>?_)
 obtain ⟨l,hS,hperm⟩:=hgood acc hacc
 have hl:acc.length≤sortLine:=by rw [StrsAre.length hS,hperm.length_eq,hlen];exact hn
 refine wpAny_bind (wpAny_newList ?_ (sort_size hl))
 have hoL:(s₁.heap.push { cls:=.type "list",data:=.seq acc.toArray }).get? s₁.heap.objs.size=some (seqObj "list" acc.toArray 0):=Heap.get?_push_size _ rfl
 refine wpAny_bind (wpAny_holding (wpAny_call_entry slot_list_sort ⟨_,hoL,rfl⟩ entry_list_sort (list_sort_any strKind_oneLt hoL hS.keysOf (fun v₁ v₂ rest e=>keyKind_strs (by rw [← e];exact hS)) hl fun st' hp hs=>⟨_,rfl,?_⟩) (args_list_sort _)))
 obtain ⟨ss',a1,a2,a3⟩:=sorted_out_str hS hp hs
 have e:=sortedS_eq a2 a3
 rw [srt_congr hperm] at e
 subst e
 refine wpAny_pure ⟨_,rfl,?_⟩
 obtain ⟨e2,he⟩:=sortedHeap_at (vs:=acc) (out:=(arrOf st').map (·.2)) hoL
 have hkeep:∀ b o,s.heap.get? b=some o→(sortedHeap (s₁.heap.push { cls:=.type "list",data:=.seq acc.toArray }) s₁.heap.objs.size acc ((arrOf st').map (·.2))).get? b=some o:=fun b o eo=>by
  have hlt:=Heap.lt_size (hk b o eo)
  rw [sortedHeap_old (Nat.ne_of_lt hlt) (by rw [size_push'];exact Nat.lt_succ_of_lt hlt)]
  exact Heap.get?_push_of_some _ (hk b o eo)
 obtain ⟨t,G',hv'⟩:=G.newList2 (tk:=s₁.toks) (xs:=(srt ss).map V.str) hk (Nat.le_refl _) hkeep he (StrsAre.vals a1)
 exact ⟨_,_,t,⟨G'.base,G'.new,G'.nodup,G'.len,G'.objs,hg₁.trans G.gens,ho₁.trans G.os,G'.sys⟩,_,hv',q⟩
theorem keys_strs:∀ {vs:List Value} {es:List (Key×V)},vs.length=es.length→(∀ p∈es,∃ x,p.1=Key.s x)→(∀ (j:Nat) (v:Value) (p:Key×V),vs[j]?=some v→es[j]?=some p→p.1.is v=true)→StrsAre vs (es.map fun p=>keyS p.1)
 | [],[],_,_,_=>.nil
 | [],_ :: _,e,_,_=>by simp at e
 | _ :: _,[],e,_,_=>by simp at e
 | v :: vs,p :: es,e,h1,h2=>by
  obtain ⟨x,hp⟩:=h1 p (.head _)
  have hv:=h2 0 v p rfl rfl
  rw [hp] at hv
  rcases Key.is_shape hv with ⟨y,t,e1,rfl⟩ | ⟨y,t,e1,rfl⟩
  ·cases e1
   rw [List.map_cons,hp]
   exact .cons _ _ (keys_strs (by simpa using e) (fun q hq=>h1 q (.tail _ hq)) fun j u q a b=>h2 (j+1) u q a b)
  ·cases e1
theorem C_sorted_dict {k:Nat} {es:List (Key×V)} {ep:Option Nat} (hh:A.handled=none) (hσ:σ[k]?=some (.dict es ep)) (hes:∀ p∈es,∃ x,p.1=.s x) (h64:es.length≤sortLine) (q:Q (.ref σ.length) (σ++[.list ((srt (es.map fun p=>keyS p.1)).map V.str)])) :
  WC prog w B A (.builtin "sorted") [.ref k] σ Q X:=fun φ s vs G FR hv=>by
 obtain ⟨v,rfl,hx⟩:=hv.one
 obtain ⟨a,rfl,ha⟩:=hx.of_ref
 obtain ⟨a',ha',kvs,ep',hd,hvs,_⟩:=G.get hσ
 rw [ha] at ha';cases ha'
 refine sorted_src (src_dict (kvs:=kvs) (ep:=ep') (G.notSys (List.mem_of_getElem? ha))) hh G hd (by rw [hvs.length];exact h64) (by rw [List.length_map,hvs.length]) (fun vs hg=>⟨_,keys_strs (by rw [hg.1,hvs.length]) hes fun j v p h1 h2=>?_,.refl _⟩) q
 obtain ⟨key,y,h3,h4⟩:=hg.2 j v h1
 obtain ⟨u,h5,_⟩:=hvs.get h2
 rw [h3] at h5;cases h5
 exact h4
end
end Mine
namespace Mine
open PySem PySem.W PySem.Calls PyProof.Rows
open AutoSeq1 (wpAny_loadPart')
section
variable {prog:Program} {w:World} {A:Around} {E:Value→Shared→Prop} {s:Shared}
theorem nextOf_dict_item {it d:Addr} {i ep:Nat} {kvs:List (Key×Value)} {k:Key} {v:Value} {Q:Value→Shared→Prop} (hit:s.heap.IsKeyIter it d i kvs.length ep)
  (hm:s.heap.DictAt (kk prog w) d kvs ep) (hx:kvs[i]?=some (k,v))
  (hQ:∀ key h',(kk prog w).is k key=true→h'.IsKeyIter it d (i+1) kvs.length ep→Heap.SameBut it s.heap h'→Q key { s with heap:=h' }) :
  wpAny (model prog w) A (Builtin.SmallTypes.nextOf (.ref it)) Q E s:=by
 obtain ⟨o,ho,hc,hd⟩:=id hit
 obtain ⟨od,es,hod,hcd,hdd,hk,hp,hn⟩:=id hm
 unfold Builtin.SmallTypes.nextOf
 refine wpAny_bind (wpAny_callSpecial?_slot (name:=Str.ofString "__next__") hit.typeIs PySem.F.slot_dict_keyiterator_next
  (wpAny_call_entry PySem.F.slot_dict_keyiterator_next hit.typeIs PySem.F.entry_dict_keyiterator_next ?_ (PySem.F.args_dict_keyiterator_next_1 _)))
 refine wpAny_bind (wpAny_pure (wpAny_bind (wpAny_bind ?_)))
 first | refine wpAny_bind (wpAny_typeNameOfWhole_keyiter hit.typeIs (wpAny_pure ?_)) | refine wpAny_bind (wpAny_typeNameOf_keyiter hit.typeIs (wpAny_pure ?_))
 refine wpAny_bind (wpAny_fieldsOf ho hd ?_)
 show wpAny _ _ (if (Value.ref d == Value.none)=true then _ else _) _ _ s
 rw [if_neg (show ¬ ((Value.ref d == Value.none)=true) from Bool.false_ne_true)]
 refine wpAny_bind (wpAny_pure (wpAny_bind (wpAny_dictEntries hod hdd ?_)))
 have hsz:es.size=kvs.length:=by rw [← hp.length];simp
 rw [if_neg (by rw [hsz];simp)]
 refine wpAny_bind (wpAny_pure (wpAny_bind (wpAny_dictEpoch hod hdd ?_)))
 rw [if_neg (by simp)]
 refine wpAny_pure ?_
 have hlt:i < es.size:=by
  rw [hsz]
  exact (List.getElem?_eq_some_iff.mp hx).1
 have hkey:(kk prog w).is k es[i].key=true:=(hp.get? (e:=es[i]) (by simp [hlt]) hx).1
 dsimp only
 rw [if_neg (show ¬ ((i:Int) < 0) from Int.not_lt.mpr (Int.natCast_nonneg i)),Int.toNat_natCast,Array.getElem?_eq_getElem hlt]
 refine wpAny_bind ?_
 first | refine wpAny_bind (wpAny_typeNameOfWhole_keyiter hit.typeIs (wpAny_pure ?_)) | refine wpAny_bind (wpAny_typeNameOf_keyiter hit.typeIs (wpAny_pure ?_))
 refine wpAny_bind (wpAny_isOneOf_keyiter hit.typeIs ?_)
 show wpAny _ _ (setField (.ref it) 1 (rawInt ((i:Int)+1)) >>= _) _ _ s
 refine wpAny_bind (wpAny_setField ho hd (by simp) ?_)
 have hit':(s.heap.update it (Obj.mapFields (·.setIfInBounds 1 (rawInt ((i:Int)+1))))).IsKeyIter it d (i+1) kvs.length ep :=
  ⟨_,Heap.get?_update_self _ ho (Obj.isFreed_of_fields (Obj.data_mapFields hd _)),(Obj.cls_mapFields ..).trans hc,by rw [Obj.data_mapFields hd];simp [rawInt]⟩
 refine wpAny_bind (wpAny_holding (wpAny_bind (wpAny_isOneOf_keyiter (s:={ s with heap:=s.heap.update it (Obj.mapFields (·.setIfInBounds 1 (rawInt ((i:Int)+1)))) }) hit'.typeIs ?_)))
 show wpAny _ _ (pure es[i].key) _ _ _
 exact wpAny_pure (wpAny_pure ⟨_,rfl,wpAny_pure (hQ _ _ hkey hit' (Heap.SameBut.update ..))⟩)
theorem nextOf_dict_end {it d:Addr} {i ep:Nat} {kvs:List (Key×Value)} {Q:Value→Shared→Prop} (hh:A.handled=none) (hit:s.heap.IsKeyIter it d i kvs.length ep)
  (hm:s.heap.DictAt (kk prog w) d kvs ep) (hx:kvs[i]?=none)
  (hE:∀ h' e,Heap.ExtBut it s.heap h'→(∃ o,h'.get? e=some o∧o.cls=.type "StopIteration")→E (.ref e) { s with heap:=h' }) :
  wpAny (model prog w) A (Builtin.SmallTypes.nextOf (.ref it)) Q E s:=by
 obtain ⟨o,ho,hc,hd⟩:=id hit
 obtain ⟨od,es,hod,hcd,hdd,hk,hp,hn⟩:=id hm
 unfold Builtin.SmallTypes.nextOf
 refine wpAny_bind (wpAny_callSpecial?_slot (name:=Str.ofString "__next__") hit.typeIs PySem.F.slot_dict_keyiterator_next
  (wpAny_call_entry PySem.F.slot_dict_keyiterator_next hit.typeIs PySem.F.entry_dict_keyiterator_next ?_ (PySem.F.args_dict_keyiterator_next_1 _)))
 refine wpAny_bind (wpAny_pure (wpAny_bind (wpAny_bind ?_)))
 first | refine wpAny_bind (wpAny_typeNameOfWhole_keyiter hit.typeIs (wpAny_pure ?_)) | refine wpAny_bind (wpAny_typeNameOf_keyiter hit.typeIs (wpAny_pure ?_))
 refine wpAny_bind (wpAny_fieldsOf ho hd ?_)
 show wpAny _ _ (if (Value.ref d == Value.none)=true then _ else _) _ _ s
 rw [if_neg (show ¬ ((Value.ref d == Value.none)=true) from Bool.false_ne_true)]
 refine wpAny_bind (wpAny_pure (wpAny_bind (wpAny_dictEntries hod hdd ?_)))
 have hsz:es.size=kvs.length:=by rw [← hp.length];simp
 rw [if_neg (by rw [hsz];simp)]
 refine wpAny_bind (wpAny_pure (wpAny_bind (wpAny_dictEpoch hod hdd ?_)))
 rw [if_neg (by simp)]
 refine wpAny_pure ?_
 have hge:es.size≤i:=by rw [hsz];simpa using hx
 dsimp only
 rw [if_neg (show ¬ ((i:Int) < 0) from Int.not_lt.mpr (Int.natCast_nonneg i)),Int.toNat_natCast,Array.getElem?_eq_none hge]
 refine wpAny_bind ?_
 first | refine wpAny_bind (wpAny_typeNameOfWhole_keyiter hit.typeIs (wpAny_pure ?_)) | refine wpAny_bind (wpAny_typeNameOf_keyiter hit.typeIs (wpAny_pure ?_))
 show wpAny _ _ (setField (.ref it) 0 .none >>= _) _ _ s
 refine wpAny_bind (wpAny_setField ho hd (by simp) ?_)
 show wpAny _ _ (newExc (.type "StopIteration") [] >>= _) _ _ _
 refine wpAny_bind ?_
 simp only [newExc,newTuple]
 refine wpAny_bind (wpAny_newObj_type ?_ (by size_fits))
 refine wpAny_bind (m:=firstArgMember _ _) (wpAny_of_eq (a:=Value.none) (by first | rfl | (simp only [firstArgMember];rfl)) ?_)
 refine wpAny_newObj_type ?_ (by size_fits)
 simp only [raiseNew]
 refine wpAny_bind (wpAny_handled ?_)
 first | rw [show A.in1.handled=none from hh] | rw [hh]
 refine wpAny_bind (wpAny_pure (wpAny_throw ?_))
 exact hE _ _ (((Heap.SameBut.update ..).extBut.push _).push _) ⟨_,Heap.get?_push_size _ rfl,rfl⟩
theorem pyNext_enumD_item {e it d:Addr} {i ep:Nat} {kvs:List (Key×Value)} {k:Key} {v old:Value} {Q:Option Value→Shared→Prop}
  (he:IsEnum s.heap e it i old) (hit:s.heap.IsKeyIter it d i kvs.length ep) (hm:s.heap.DictAt (kk prog w) d kvs ep) (hx:kvs[i]?=some (k,v)) (hne:e≠it)
  (hQ:∀ key h',(kk prog w).is k key=true→IsEnumOut h' e it ((i:Int)+1) key s.heap.objs.size→h'.IsKeyIter it d (i+1) kvs.length ep→
   h'.get? s.heap.objs.size=some { cls:=.type "tuple",data:=.seq #[.int i s.toks,key] }→h'.objs.size=s.heap.objs.size+1→
   (∀ b o,b≠e→b≠it→s.heap.get? b=some o→h'.get? b=some o)→Q (some (.ref s.heap.objs.size)) { s with heap:=h',toks:=s.toks+1 }) :
  wpAny (model prog w) A (pyNext (.ref e)) Q E s:=by
 have hT:s.TypeIs (.ref e) "enumerate":=⟨_,he,rfl⟩
 unfold pyNext
 refine wpAny_bind (wpAny_attempt (wpAny_callSpecial?_slot (name:=Str.ofString "__next__") hT PySem.F.slot_enumerate_next
  (wpAny_call_entry PySem.F.slot_enumerate_next hT PySem.F.entry_enumerate_next ?_ (PySem.F.args_enumerate_next_1 _))))
 obtain ⟨hp,g,dd,tk,os⟩:=s
 show wpAny _ _ (field (.ref e) 2 >>= _) _ _ _
 refine wpAny_bind (wpAny_field he rfl (x:=.ref it) rfl ?_)
 refine wpAny_bind (nextOf_dict_item hit hm hx fun x h₁ hkx hit₁ hs₁=>?_)
 replace hs₁:Heap.SameBut it hp h₁:=hs₁
 have he₁:IsEnum h₁ e it i old:=(hs₁.2 e hne).trans he
 show wpAny _ _ (field (.ref e) 3 >>= _) _ _ ⟨h₁,g,dd,tk,os⟩
 refine wpAny_bind (wpAny_field he₁ rfl (x:=rawInt i) rfl ?_)
 show wpAny _ _ (field (.ref e) 4 >>= _) _ _ ⟨h₁,g,dd,tk,os⟩
 refine wpAny_bind (wpAny_field he₁ rfl (x:=.none) rfl ?_)
 show wpAny _ _ (mkInt i >>= _) _ _ ⟨h₁,g,dd,tk,os⟩
 refine wpAny_bind (wpAny_mkInt ?_)
 show wpAny _ _ (setField (.ref e) 3 (rawInt ((i:Int)+1)) >>= _) _ _ ⟨h₁,g,dd,tk+1,os⟩
 refine wpAny_bind (wpAny_setField_rec he₁ (by simp) fun h₂ he₂ hs₂=>?_)
 replace hs₂:Heap.SameBut e h₁ h₂:=hs₂
 replace he₂:IsEnum h₂ e it ((i:Int)+1) old:=he₂
 show wpAny _ _ (setField (.ref e) 4 .none >>= _) _ _ ⟨h₂,g,dd,tk+1,os⟩
 refine wpAny_bind (wpAny_setField_rec he₂ (by simp) fun h₃ he₃ hs₃=>?_)
 replace hs₃:Heap.SameBut e h₂ h₃:=hs₃
 replace he₃:IsEnum h₃ e it ((i:Int)+1) old:=he₃
 show wpAny _ _ (newTuple [.int i tk,x] >>= _) _ _ ⟨h₃,g,dd,tk+1,os⟩
 refine wpAny_bind (wpAny_newTuple ?_)
 have he₄:IsEnum (h₃.push { cls:=.type "tuple",data:=.seq #[.int i tk,x] }) e it ((i:Int)+1) old:=Heap.get?_push_of_some _ he₃
 generalize hh₄:h₃.push { cls:=.type "tuple",data:=.seq #[.int i tk,x] } = h₄ at he₄
 have hsz:h₃.objs.size=hp.objs.size:=by rw [hs₃.1,hs₂.1,hs₁.1]
 have hel:e < hp.objs.size:=Heap.lt_size he
 have ht₄:h₄.get? hp.objs.size=some { cls:=.type "tuple",data:=.seq #[.int i tk,x] }:=by rw [← hh₄,← hsz];exact Heap.get?_push_size _ rfl
 have hz₄:h₄.objs.size=hp.objs.size+1:=by rw [← hh₄,Heap.size_push,hsz]
 have hk₄:∀ b o,b≠e→b≠it→hp.get? b=some o→h₄.get? b=some o:=fun b o hbe hbi hb=>by
  rw [← hh₄];exact Heap.get?_push_of_some _ (hs₃.extBut b o hbe (hs₂.extBut b o hbe (hs₁.extBut b o hbi hb)))
 have hit₄:h₄.IsKeyIter it d (i+1) kvs.length ep:=by
  rw [← hh₄];obtain ⟨o,ho,r⟩:=(hit₁.extBut hs₂.extBut (Ne.symm hne)).extBut hs₃.extBut (Ne.symm hne);exact ⟨o,Heap.get?_push_of_some _ ho,r⟩
 show wpAny _ _ (Builtin.SmallTypes.ownedTupleIsFree (.ref e) >>= _) _ _ ⟨h₄,g,dd,tk+1,os⟩
 rw [hsz]
 clear hh₄ he₃ hs₃ he₂ hs₂ he₁ hs₁ hit₁ hsz h₃ h₂ h₁
 refine wpAny_bind ?_
 unfold Builtin.SmallTypes.ownedTupleIsFree
 refine wpAny_bind (wpAny_field he₄ rfl (x:=.none) rfl (wpAny_pure ?_))
 simp only [if_true]
 refine wpAny_bind (wpAny_rule (wpAny_bind (wpAny_field he₄ rfl (x:=old) rfl (wpAny_bind (wpAny_setField_rec he₄ (by simp) fun h₅ he₅ hs₅=>?_)))))
 replace hs₅:Heap.SameBut e h₄ h₅:=hs₅
 replace he₅:IsEnum h₅ e it ((i:Int)+1) x:=he₅
 show wpAny _ _ (Builtin.SmallTypes.ownedTupleHandOut (.ref e) (.ref hp.objs.size) >>= _) _ _ ⟨h₅,g,dd,tk+1,os⟩
 refine wpAny_bind ?_
 unfold Builtin.SmallTypes.ownedTupleHandOut
 refine wpAny_bind (wpAny_setField_rec he₅ (by simp) fun h₆ he₆ hs₆=>?_)
 replace hs₆:Heap.SameBut e h₅ h₆:=hs₆
 replace he₆:IsEnumOut h₆ e it ((i:Int)+1) x hp.objs.size:=he₆
 refine wpAny_setField_rec he₆ (by simp) fun h₇ he₇ hs₇=>?_
 replace hs₇:Heap.SameBut e h₆ h₇:=hs₇
 replace he₇:IsEnumOut h₇ e it ((i:Int)+1) x hp.objs.size:=he₇
 refine wpAny_bind (wpAny_letGo (wpAny_pure ⟨_,rfl,wpAny_pure (hQ x h₇ hkx he₇ ?_ ?_ ?_ ?_)⟩))
 ·exact ((hit₄.extBut hs₅.extBut (Ne.symm hne)).extBut hs₆.extBut (Ne.symm hne)).extBut hs₇.extBut (Ne.symm hne)
 ·exact hs₇.extBut _ _ (Nat.ne_of_gt hel) (hs₆.extBut _ _ (Nat.ne_of_gt hel) (hs₅.extBut _ _ (Nat.ne_of_gt hel) ht₄))
 ·rw [hs₇.1,hs₆.1,hs₅.1,hz₄]
 ·exact fun b o hbe hbi hb=>hs₇.extBut b o hbe (hs₆.extBut b o hbe (hs₅.extBut b o hbe (hk₄ b o hbe hbi hb)))
theorem pyNext_enumD_end {e it d:Addr} {i ep:Nat} {kvs:List (Key×Value)} {old:Value} {Q:Option Value→Shared→Prop} (hh:A.handled=none)
  (he:IsEnum s.heap e it i old) (hit:s.heap.IsKeyIter it d i kvs.length ep) (hm:s.heap.DictAt (kk prog w) d kvs ep) (hx:kvs[i]?=none)
  (hQ:∀ h',Heap.ExtBut it s.heap h'→Q none { s with heap:=h' }):wpAny (model prog w) A (pyNext (.ref e)) Q E s:=by
 have hT:s.TypeIs (.ref e) "enumerate":=⟨_,he,rfl⟩
 unfold pyNext
 refine wpAny_bind (wpAny_attempt (wpAny_callSpecial?_slot (name:=Str.ofString "__next__") hT PySem.F.slot_enumerate_next
  (wpAny_call_entry PySem.F.slot_enumerate_next hT PySem.F.entry_enumerate_next ?_ (PySem.F.args_enumerate_next_1 _))))
 show wpAny _ _ (field (.ref e) 2 >>= _) _ _ _
 refine wpAny_bind (wpAny_field he rfl (x:=.ref it) rfl ?_)
 refine wpAny_bind (nextOf_dict_end hh hit hm hx fun h' x he' hx'=>?_)
 obtain ⟨o,ho,hc⟩:=hx'
 refine wpAny_bind (wpAny_isInstance (T:="StopIteration") (b:=true) ⟨o,ho,hc⟩ isSubtype_stop ?_)
 exact wpAny_pure (hQ _ he')
end
noncomputable def RawD (h:Heap) (d:Addr) (es:Array DictEntry) (ep:Nat):Prop:=∃ o,h.get? d=some o∧o.cls=.type "dict"∧o.data=.dict es ep
section
variable {prog:Program} {w:World} {A:Around} {E:Value→Shared→Prop} {s:Shared}
theorem pyIter_rawD {d:Addr} {es:Array DictEntry} {ep:Nat} {Q:Value→Shared→Prop} (hd:(d == sysModules)=false) (hm:RawD s.heap d es ep)
  (hQ:Q (.ref s.heap.objs.size) { s with heap:=s.heap.push { cls:=.type "dict_keyiterator",data:=.fields #[.ref d,.int 0 0,.int es.size 0,.int ep 0] } }) :
  wpAny (model prog w) A (pyIter (.ref d)) Q E s:=by
 obtain ⟨o,ho,hc,hdat⟩:=id hm
 have hT:s.TypeIs (.ref d) "dict":=⟨o,ho,hc⟩
 refine wpAny_pyIter_slot hT PySem.F.slot_dict_iter (wpAny_call_entry PySem.F.slot_dict_iter hT PySem.F.entry_dict_iter ?_ (PySem.F.args_dict_iter_1 _))
 unfold Builtin.«dict.__iter__»
 refine wpAny_bind ?_
 unfold Builtin.Dict.dictSlotNone
 refine wpAny_bind (wpAny_notOrdered_dict hT ?_)
 show wpAny _ _ (pure (Value.ref d)) _ _ s
 refine wpAny_pure ?_
 show wpAny _ _ (Builtin.Dict.showsAll d >>= _) _ _ s
 unfold Builtin.Dict.showsAll
 rw [if_neg (by rw [hd];exact Bool.false_ne_true)]
 refine wpAny_bind (wpAny_pure (wpAny_bind (wpAny_dictEntries ho hdat (wpAny_bind (wpAny_dictEpoch ho hdat ?_)))))
 refine wpAny_bind (wpAny_newObj_type (wpAny_pure ⟨_,rfl,"dict_keyiterator",_,⟨_,Heap.get?_push_size _ rfl,rfl⟩,PySem.F.slot_dict_keyiterator_next.lookup,?_⟩))
 simpa [rawInt] using hQ
theorem meets_enumerate_newD (d:Addr) (es:Array DictEntry) (ep:Nat) (dct:Option Addr) (sl:Array (Option Value)) (hd:(d == sysModules)=false) :
  Meets (Builtin.«enumerate.__new__» ⟨[.type "enumerate",.ref d],[]⟩) (fun _ R s=>s.heap.get? d=some { cls:=.type "dict",dict:=dct,data:=.dict es ep,slots:=sl }∧
   R (.ok (.ret (.ref (s.heap.push { cls:=.type "dict_keyiterator",data:=.fields #[.ref d,.int 0 0,.int es.size 0,.int ep 0] }).objs.size)))
    { s with heap:=(s.heap.push { cls:=.type "dict_keyiterator",data:=.fields #[.ref d,.int 0 0,.int es.size 0,.int ep 0] }).push { cls:=.type "enumerate",data:=.fields #[.none,.bool false,.ref s.heap.objs.size,rawInt 0,.none,.none] } }) :=
 .of_wp fun prog w A R s h=>by
  obtain ⟨hp,g,dd,tk,os⟩:=s;obtain ⟨hl,h⟩:=h
  have hsub:=sub_enumerate
  have hL:RawD (Shared.heap ⟨hp,g,dd,tk,os⟩) d es ep:=⟨_,hl,rfl,rfl⟩
  wp_walk using wpAny_loadPart' hl
  refine wpAny_stack_any fun st=>wpAny_pure ?_
  split
  ·rename_i c _ _ _ _ _
   cases (c == Value.type "enumerate")
   ·wp_walk using wpAny_loadPart' hl,pyIter_rawD hd hL
    exact ⟨_,rfl,h⟩
   ·wp_walk using wpAny_loadPart' hl,pyIter_rawD hd hL
    exact ⟨_,rfl,h⟩
  ·wp_walk using wpAny_loadPart' hl,pyIter_rawD hd hL
   exact ⟨_,rfl,h⟩
theorem call_enumerate_dict {d:Addr} {kvs:List (Key×Value)} {ep:Nat} {Q:Value→Shared→Prop} (hd:(d == sysModules)=false) (hm:s.heap.DictAt (kk prog w) d kvs ep)
  (h:∀ h',IsEnum h' (s.heap.objs.size+1) s.heap.objs.size 0 .none→h'.IsKeyIter s.heap.objs.size d 0 kvs.length ep→h'.objs.size=s.heap.objs.size+2→
   (∀ b o,s.heap.get? b=some o→h'.get? b=some o)→Q (.ref (s.heap.objs.size+1)) { s with heap:=h' }) :
  wpAny (model prog w) A (call (.type "enumerate") [.ref d]) Q E s:=by
 obtain ⟨⟨c,dct,dt,sl⟩,es,ho,hc,hdat,hk,hp,hn⟩:=id hm
 replace hc:c=.type "dict":=hc.1
 replace hdat:dt=.dict es ep:=hdat
 subst hc hdat
 have hsz:es.size=kvs.length:=by rw [← hp.length];simp
 refine callType_new PySem.F.called_enumerate (by decide) (PySem.F.typeCall_enumerate_1 _) (PySem.F.newCall_enumerate_1 _) (fun obj=>PySem.F.args_object_init_2 obj _) PySem.F.entry_enumerate_new
  (meets_enumerate_newD d es ep dct sl hd) ⟨ho,?_⟩
 have hz:(s.heap.push { cls:=.type "dict_keyiterator",data:=.fields #[.ref d,.int 0 0,.int es.size 0,.int ep 0] }).objs.size=s.heap.objs.size+1:=Heap.size_push ..
 show _∧_
 rw [hz]
 have he:IsEnum ((s.heap.push { cls:=.type "dict_keyiterator",data:=.fields #[.ref d,.int 0 0,.int es.size 0,.int ep 0] }).push
   { cls:=.type "enumerate",data:=.fields #[.none,.bool false,.ref s.heap.objs.size,rawInt 0,.none,.none] }) (s.heap.objs.size+1) s.heap.objs.size 0 .none:=by
  have:=Heap.get?_push_size (s.heap.push { cls:=.type "dict_keyiterator",data:=.fields #[.ref d,.int 0 0,.int es.size 0,.int ep 0] })
   (o:={ cls:=.type "enumerate",data:=.fields #[.none,.bool false,.ref s.heap.objs.size,rawInt 0,.none,.none] }) rfl
  rw [hz] at this;exact this
 refine ⟨⟨_,he,rfl⟩,h _ he ⟨_,Heap.get?_push_of_some _ (Heap.get?_push_size _ rfl),rfl,?_⟩ (by rw [Heap.size_push,hz]) fun b o x=>Heap.get?_push_of_some _ (Heap.get?_push_of_some _ x)⟩
 rw [hsz];rfl
end
end Mine
namespace Mine
open PySem PySem.W PySem.Calls PyProof.Rows
section
variable {prog:Program} {w:World} {B:Shared} {mg mb:Str→Option Value} {φ φ':List Addr} {σ σ':List AObj} {s s':Shared} {env:Env} {ρ l:List (Str×V)} {A:Around} {X:XT} {Q:V→List AObj→Prop}
theorem Loc.butL {h h':Heap} {own:List Addr} (L:Loc A B env ρ φ h) (hs:∀ b o,b∉own→h.get? b=some o→h'.get? b=some o) (hc:∀ c∈own,c∉fr env) (hn:∀ c∈own,∀ o,h.get? c=some o→¬ Still o) (hd:∀ c∈own,∀ o,h.get? c=some o→NoD o):Loc A B env ρ φ h':=by
 have hk:∀ a∈fr env,∀ o,h.get? a=some o→∃ o',h'.get? a=some o'∧Sim o o':=fun a ha o e=>⟨o,hs a o (fun h=>hc a h ha) e,.refl o⟩
 refine ⟨L.kind,L.glob,L.blt,?_,L.own,fun x d hm=>?_,L.apart,fun x v hx=>?_,L.frs.thru (fun _ h=>.inl h) fun a o es n e hdt _=>⟨o,es,n,hs a o (fun h=>hd a h o e es n hdt) e,hdt⟩,L.top⟩
 ·obtain ⟨m,n⟩:=L.ns;exact ⟨m,Ns.upTo n (hk _ (.head _))⟩
 ·obtain ⟨v,n⟩:=L.cells x d hm;exact ⟨v,IsCell.upTo n (hk _ (mem_fr_cell hm))⟩
 ·obtain ⟨val,hb,hv⟩:=L.val x v hx
  refine ⟨val,?_,Val.mono (List.prefix_refl _) (fun a o e hst=>hs a o (fun h=>hn a h o e hst) e) v hv⟩
  rcases hb with ⟨k,m,n,e⟩ | ⟨k,d,e,n⟩
  ·exact .inl ⟨k,m,Ns.upTo n (hk _ (.head _)),e⟩
  ·exact .inr ⟨k,d,e,IsCell.upTo n (hk _ (mem_fr_cell (mem_of_lookup e)))⟩
theorem E_biR {x:Str} {px pos:Pos} {es:List Expr} {v:Value} {R:Value→Shared→Prop} (C:Bi B mg mb x v) (hk:Keep B v) (G:St prog w B φ σ s) (L:Loc A B env ρ φ s.heap)
  (h:WEs prog w B A env es ρ σ (fun xs σ₂=>∀ φ₂ s₂ vs,Step [] φ s.heap φ₂ s₂.heap→St prog w B φ₂ σ₂ s₂→Vals φ₂ s₂.heap xs vs→wpAny (model prog w) A (call v vs) R (Post prog w B [] φ s X) s₂) X)
  (hx:env.kindOf x=some .globalImplicit:=by kernel_rfl!)
  (hp:∀ pos,(backTo pos (starEach es env)).any (·.1)=false:=by intro _;with_unfolding_all rfl)
  (hd:(x == ("__debug__":Str))=false:=by decide +kernel) :
  wpAny (model prog w) A (eval (.Call (.Name x px) es [] pos) env) R (Post prog w B [] φ s X) s:=by
 have hf:WE prog w B A env (.Name x px) ρ σ (fun y σ₁=>y=.raw v∧σ₁=σ) X:=E_builtin C.1 C.2.2.1 C.2.1 C.2.2.2 hx ⟨rfl,rfl⟩ hd
 refine wpAny_Call_NameR ((hf φ s G L).useV (.refl ..) fun v' s₁ φ₁ σ₁ t₁ _ G₁ y hy ⟨e,e'⟩=>?_)
 subst e e'
 have hv:=hy.of_raw
 subst hv
 refine callWith_of (P:=fun h=>∀ b o,B.heap.get? b=some o→h.get? b=some o) (by rw [hp pos];rfl) (fun h hb=>hk _ h hb) ?_
 have main:=(h pos φ₁ s₁ G₁ (L.step G t₁)).use t₁ (R:=fun vs s₂=>(∀ b o,B.heap.get? b=some o→s₂.heap.get? b=some o)∧wpAny (model prog w) A (call v' ([]++vs)) R (Post prog w B [] φ s X) s₂) fun vs s₂ φ₂ σ₂ t₂ t G₂ ⟨xs,hxs,h₂⟩=>⟨G₂.base,h₂ φ₂ s₂ vs t G₂ hxs⟩
 exact evalArgs_any (hp pos) main
theorem Step.at {c:Addr} {o:Obj} {h h':Heap} {D:List Addr} (t:Step D φ h φ' h') (e:h.get? c=some o) (h1:c∉φ) (h2:c∉D) (hc:NoD o):h'.get? c=some o∧c∉φ':=by
 obtain ⟨o',e',hs'⟩:=t.keep c o e h1 h2
 rw [hs'.same hc] at e'
 refine ⟨e',fun hm=>?_⟩
 rcases t.fresh c hm with h3 | h3
 ·exact h1 h3
 ·rw [h3] at e;cases e
theorem both {P:Addr→Prop} {a b:Addr} (h1:P a) (h2:P b):∀ c∈[a,b],P c:=fun c hc=>by
 rcases List.mem_cons.mp hc with h | h
 ·rw [h];exact h1
 ·rw [List.mem_singleton.mp h];exact h2
inductive DG (prog:Program) (w:World) (φ:List Addr) (h:Heap) (es:List (Key×V)) (ep:Nat) (a:Addr):Prop
 | mk:∀ kvs,h.DictAt (kk prog w) a kvs ep→Ents φ h es kvs→kvs.length=es.length→DG prog w φ h es ep a
theorem St.dg {k a:Nat} {es:List (Key×V)} {ep:Nat} (G:St prog w B φ σ s) (hC:σ[k]?=some (.dict es (some ep))) (ha:φ[k]?=some a):DG prog w φ s.heap es ep a:=by
 obtain ⟨a',ha',kvs,ep',hd,hvs,hep⟩:=G.get hC
 rw [ha] at ha';cases ha'
 obtain rfl:=hep ep rfl
 exact ⟨kvs,hd,hvs,hvs.length⟩
inductive EnI (prog:Program) (w:World) (B:Shared) (A:Around) (env:Env) (φ:List Addr) (h:Heap) (k:Nat) (es:List (Key×V)) (ep:Nat) (e it:Addr) (Iv:Nat→List (Str×V)→List AObj→Prop) (m:Nat) (s':Shared):Prop
 | mk:∀ i φ' σ' ρ' old a,(m=es.length - i)→(i≤es.length)→(Step (fr env) φ h φ' s'.heap)→(St prog w B φ' σ' s')→(Loc A B env ρ' φ' s'.heap)→(e∉φ')→(it∉φ')→(φ'[k]?=some a)→(IsEnum s'.heap e it (i:Nat) old)→(s'.heap.IsKeyIter it a i es.length ep)→(σ'[k]?=some (.dict es (some ep)))→(Iv i ρ' σ')→EnI prog w B A env φ h k es ep e it Iv m s'
theorem X_enum1 {xk xn:Str} {pk pn pt pe pos pos':Pos} {ctx:_} {arg:Expr} {body:List Stmt} {Q:Fl→List (Str×V)→List AObj→Prop} {k:Nat} {es:List (Key×V)} {ep:Nat}
  (be:Bi B mg mb "enumerate" (.type "enumerate")) (hh:A.handled=none) (hσ:σ[k]?=some (.dict es (some ep)))
  (hi:WEs prog w B A env [arg] ρ σ (fun vs σ'=>vs=[.ref k]∧σ'=σ) X)
  (Iv:Nat→List (Str×V)→List AObj→Prop) (h0:Iv 0 ρ σ)
  (hbody:∀ i ρ₂ σ₂,i < es.length→σ₂[k]?=some (.dict es (some ep))→Iv i ρ₂ σ₂→WX prog w B A env body ((xn,keyAt es i) :: (xk,.int i) :: ρ₂) σ₂ (turnQ (Iv (i+1)) (fun σ'=>σ'[k]?=some (.dict es (some ep))) Q) (fun _ _ _ _=>False))
  (hend:∀ ρ₂ σ₂,σ₂[k]?=some (.dict es (some ep))→Iv es.length ρ₂ σ₂→Q .next ρ₂ σ₂)
  (hxk:env.kindOf xk=some .local) (hxn:env.kindOf xn=some .local)
  (hx:env.kindOf ("enumerate":Str)=some .globalImplicit)
  (hp:∀ pos,(backTo pos (starEach [arg] env)).any (·.1)=false)
  (hs:∀ v,foldedSetIterable (.Call (.Name "enumerate" pe) [arg] [] pos') env v=pure v) :
  WX1 prog w B A env (.For (.Tuple [.Name xk pk,.Name xn pn] ctx pt) (.Call (.Name "enumerate" pe) [arg] [] pos') body [] pos) ρ σ Q X:=fun φ s G L=>by
 refine wpAny_For (wpAny_mono (E_biR (R:=fun x s₁=>wpAny (model prog w) A (pyIter x) (fun it s₂=>codeAny (model prog w) A (.forLoop (.Tuple [.Name xk pk,.Name xn pn] ctx pt) it body [] env) (fun r s'=>match r with | .ok f=>Post prog w B (fr env) φ s (fQ B A env Q) f s' | .error e=>cameBackBy (model prog w) A env (Post prog w B (fr env) φ s X) e s') s₂) (Post prog w B (fr env) φ s X) s₁) be (.type _) G L ?_ hx hp) (fun _ _ h=>h) fun e s' ⟨φ',σ',t,G',r⟩=>⟨φ',σ',t.nilD,G',r⟩) hs
 refine fun p φ₀ s₀ G₀ L₀=>wpAny_mono (hi p φ₀ s₀ G₀ L₀) (fun vs₀ s₁₀ hx=>?_) fun _ _ x=>x
 obtain ⟨φ₁₀,σ₁₀,t₁₀,G₁₀,xs,hxs,e1,e2⟩:=hx
 refine ⟨φ₁₀,σ₁₀,t₁₀,G₁₀,xs,hxs,?_⟩
 rw [e1,e2]
 clear e1 e2 hxs G₁₀ t₁₀ L₀ G₀
 intro φ₁ s₁ vs t₁ G₁ hvs
 obtain ⟨v,rfl,hv⟩:=hvs.one
 obtain ⟨a,rfl,ha⟩:=hv.of_ref
 obtain ⟨kvs,hd,hvs',hlen⟩:=G₁.dg hσ ha
 have L₁:Loc A B env ρ φ₁ s₁.heap:=L.step G t₁
 refine call_enumerate_dict (G₁.notSys (List.mem_of_getElem? ha)) hd fun h₁ hE hI hsz hk=>?_
 refine wpAny_pyIter_enum (s:={ s₁ with heap:=h₁ }) hE ?_
 rw [hlen] at hI
 generalize hie:s₁.heap.objs.size=it at *
 have heit:it+1≠it:=Nat.succ_ne_self _
 have n1:s₁.heap.get? it=none:=by rw [← hie];exact get?_size _
 have n2:s₁.heap.get? (it+1)=none:=by rw [← hie];exact get?_of_ge (Nat.le_succ _)
 generalize it+1=e at *
 have hfr:∀ c,s₁.heap.get? c=none→c∉fr env∧c∉φ₁∧B.heap.get? c=none∧s.heap.get? c=none:=fun c hc=>by
  have c1:c∉φ₁:=fun hm=>by obtain ⟨o,e⟩:=G₁.there hm;rw [hc] at e;cases e
  refine ⟨fun hm=>(by obtain ⟨o,e,_⟩:=L₁.there hm;rw [hc] at e;cases e),c1,G₁.baseSize hc,?_⟩
  cases h:s.heap.get? c with
  | none=>rfl
  | some o =>
   have hnm:c∉φ:=fun hm=>c1 (t₁.pre.subset hm)
   obtain ⟨o',e',_⟩:=t₁.keep c o h hnm (fun h=>nomatch h)
   rw [hc] at e';cases e'
 obtain ⟨i1,i2,i3,i4⟩:=hfr it n1
 obtain ⟨e1,e2,e3,e4⟩:=hfr e n2
 have G₂:St prog w B φ₁ σ { s₁ with heap:=h₁ }:=G₁.keeps (s':={ s₁ with heap:=h₁ }) hk
 have L₂:Loc A B env ρ φ₁ h₁:=L₁.step G₁ (.of_keeps hk)
 have t₂:Step (fr env) φ s.heap φ₁ h₁:=Step.nilD (t₁.trans0 (.of_keeps hk))
 have nstE:∀ {h:Heap} {i:Int} {old:Value},IsEnum h e it i old→∀ o,h.get? e=some o→NoD o∧¬ Still o:=fun he o ho=>by
  rw [he] at ho;cases ho
  exact ⟨.fields rfl,notStill_type rfl (by decide) (by decide)⟩
 have nstI:∀ {h:Heap} {d:Addr} {i n ep:Nat},h.IsKeyIter it d i n ep→∀ o,h.get? it=some o→NoD o∧¬ Still o:=fun he o ho=>by
  obtain ⟨o',h1,hc,hd⟩:=he
  rw [h1] at ho;cases ho
  exact ⟨.fields hd,notStill_type hc (by decide) (by decide)⟩
 refine codeAny_forLoop_any (fun m s'=>EnI prog w B A env φ s.heap k es ep e it Iv m s') ?_ es.length
  ⟨0,φ₁,σ,ρ,.none,a,rfl,Nat.zero_le _,t₂,G₂,L₂,e2,i2,ha,hE,hI,hσ,h0⟩
 clear hI hE hk hsz G₂ L₂ t₂ hfr n1 n2 h0 hlen hvs' hd ha hv hvs
 rintro m s' ⟨i,φ',σ',ρ',old,a,rfl,hin,tt,G',L',he',hi',ha,hE,hI,hC,hIv⟩
 obtain ⟨kvs',hd,hvs',hlen⟩:=G'.dg hC ha
 rw [← hlen] at hI
 have own1:∀ (b:Addr) (o:Obj),b∉[e,it]→b≠e∧b≠it:=fun b o hb=>⟨fun h=>hb (by simp [h]),fun h=>hb (by simp [h])⟩
 have tStep:∀ h₃:Heap,(∀ b o,b∉[e,it]→s'.heap.get? b=some o→h₃.get? b=some o)→Step (fr env) φ s.heap φ' h₃:=fun h₃ hk₃=>by
  refine ⟨tt.pre,tt.fresh,fun b o eb h1 h2=>?_⟩
  obtain ⟨o',e',hs'⟩:=tt.keep b o eb h1 h2
  exact ⟨o',hk₃ b o' (fun h=>by rw [both (P:=fun c=>s.heap.get? c=none) e4 i4 b h] at eb;cases eb) e',hs'⟩
 have ownφ:∀ c∈[e,it],c∉φ':=both he' hi'
 have ownB:∀ c∈[e,it],B.heap.get? c=none:=both e3 i3
 have ownF:∀ c∈[e,it],c∉fr env:=both e1 i1
 have ownS:∀ c∈[e,it],∀ o,s'.heap.get? c=some o→¬ Still o:=both (fun o ho=>(nstE hE o ho).2) (fun o ho=>(nstI hI o ho).2)
 have ownN:∀ c∈[e,it],∀ o,s'.heap.get? c=some o→NoD o:=both (fun o ho=>(nstE hE o ho).1) (fun o ho=>(nstI hI o ho).1)
 by_cases hlt:i < es.length
 ·obtain ⟨v,hv,_⟩:=hvs'.get (i:=i) (p:=es[i]) (List.getElem?_eq_getElem hlt)
  refine pyNext_enumD_item hE hI hd hv heit fun key h₂ hkey heo hit₂ ht₂ hz₂ hk₂=>?_
  have heH:e < s'.heap.objs.size:=Heap.lt_size hE
  refine wpAny_letOwnedTupleGo_enum (s:={ s' with heap:=h₂,toks:=s'.toks+1 }) heo fun h₃ he₃ hs₃=>?_
  replace hs₃:Heap.SameBut e h₂ h₃:=hs₃
  have ht₃:h₃.IsTuple s'.heap.objs.size #[.int i s'.toks,key]:=⟨_,(hs₃.2 _ (Nat.ne_of_gt heH)).trans ht₂,rfl,_,rfl⟩
  have hz₃:h₃.objs.size=s'.heap.objs.size+1:=hs₃.1.trans hz₂
  refine wpAny_assign_Tuple (s:={ s' with heap:=h₃,toks:=s'.toks+1 }) hh ht₃ rfl rfl fun h₄ hx₄=>?_
  replace hx₄:Heap.ExtBut h₃.objs.size h₃ h₄:=hx₄
  have old₄:∀ b o,b < s'.heap.objs.size→h₃.get? b=some o→h₄.get? b=some o:=fun b o hb x=>hx₄ b o (by rw [hz₃];exact Nat.ne_of_lt (Nat.lt_succ_of_lt hb)) x
  have hk₄:∀ b o,b∉[e,it]→s'.heap.get? b=some o→h₄.get? b=some o:=fun b o hb x =>
   old₄ b o (Heap.lt_size x) (hs₃.extBut b o (own1 b o hb).1 (hk₂ b o (own1 b o hb).1 (own1 b o hb).2 x))
  have G₄:St prog w B φ' σ' { s' with heap:=h₄,toks:=s'.toks+1 }:=G'.butL (s':={ s' with heap:=h₄,toks:=s'.toks+1 }) hk₄ ownφ ownB ownS
  have L₄:Loc A B env ρ' φ' h₄:=L'.butL hk₄ ownF ownS ownN
  have hE₄:IsEnum h₄ e it ((i:Int)+1) key:=old₄ e _ heH he₃
  have hI₄:h₄.IsKeyIter it a (i+1) kvs'.length ep:=(hit₂.extBut hs₃.extBut (Ne.symm heit)).at fun o x=>old₄ it o (by obtain ⟨o',x',_⟩:=hI;exact Heap.lt_size x') x
  have t₄:=tStep h₄ hk₄
  show wpAny _ A (do holding [key] (assign (.Name xk pk) env (.int i s'.toks));do holding [] (assign (.Name xn pn) env key);pure ()) _ _ _
  refine wpAny_bind (wpAny_holding (wpAny_assign_Name (store_name (s:={ s' with heap:=h₄,toks:=s'.toks+1 }) G₄ L₄ (.int_ _ _) (.inl hxk) fun h₅ tk₅ t₅ G₅ L₅=>?_)))
  refine wpAny_bind (wpAny_holding (wpAny_assign_Name (store_name G₅ L₅ (Key.val hkey) (.inl hxn) fun h₆ tk₆ t₆ G₆ L₆=>wpAny_pure ?_)))
  have hkA:(es[i]).1.v=keyAt es i:=(by unfold keyAt;rw [List.getD_eq_getElem?_getD,List.getElem?_eq_getElem hlt];rfl)
  rw [hkA] at L₆
  refine wpAny_mono (hbody i ρ' σ' hlt hC hIv φ' _ G₆ L₆) (fun f s₇ hx=>?_) (fun e s₅ hx=>by obtain ⟨_,_,_,_,x⟩:=hx;exact x.elim)
  obtain ⟨φ₇,σ₇,t₇,G₇,fl,ρ₇,hf,L₇,q⟩:=hx
  have t7:Step (fr env) φ s.heap φ₇ s₇.heap:=((t₄.transF t₅ L₄).transF t₆ L₅).transF t₇ L₆
  have hE₇:IsEnum s₇.heap e it ((i:Int)+1) key∧e∉φ₇:=by
   obtain ⟨x1,y1⟩:=t₅.at hE₄ he' e1 (nstE hE₄ _ hE₄).1
   obtain ⟨x2,y2⟩:=t₆.at x1 y1 e1 (nstE hE₄ _ hE₄).1
   exact t₇.at x2 y2 e1 (nstE hE₄ _ hE₄).1
  have hI₇:s₇.heap.IsKeyIter it a (i+1) kvs'.length ep∧it∉φ₇:=by
   obtain ⟨o,ho,hc,r⟩:=hI₄
   have hf:NoD o:=.fields r
   obtain ⟨x1,y1⟩:=t₅.at ho hi' i1 hf
   obtain ⟨x2,y2⟩:=t₆.at x1 y1 i1 hf
   obtain ⟨x3,y3⟩:=t₇.at x2 y2 i1 hf
   exact ⟨⟨o,x3,hc,r⟩,y3⟩
  have ha₇:φ₇[k]?=some a:=idx_mono t₇.pre ha
  have hE7:IsEnum s₇.heap e it ((i+1:Nat):Int) key:=by have:=hE₇.1;rwa [show ((i+1:Nat):Int)=(i:Int)+1 by exact qEc]
  have hI7:s₇.heap.IsKeyIter it a (i+1) es.length ep:=by have:=hI₇.1;rwa [hlen] at this
  cases fl with
  | next=>obtain rfl:f=.next:=hf;exact ⟨es.length - (i+1),by exact qAL hlt,i+1,φ₇,σ₇,ρ₇,key,a,rfl,hlt,t7,G₇,L₇,hE₇.2,hI₇.2,ha₇,hE7,hI7,q.1,q.2⟩
  | cont=>obtain rfl:f=.cont:=hf;exact ⟨es.length - (i+1),by exact qAL hlt,i+1,φ₇,σ₇,ρ₇,key,a,rfl,hlt,t7,G₇,L₇,hE₇.2,hI₇.2,ha₇,hE7,hI7,q.1,q.2⟩
  | brk=>obtain rfl:f=.brk:=hf;exact ⟨φ₇,σ₇,t7,G₇,.next,ρ₇,rfl,L₇,q⟩
  | ret y=>obtain ⟨u,rfl,hu⟩:=hf;exact ⟨φ₇,σ₇,t7,G₇,.ret y,ρ₇,⟨u,rfl,hu⟩,L₇,q⟩
 ·have hin':i=es.length:=by exact qBc hin hlt
  subst hin'
  refine pyNext_enumD_end hh hE hI hd (by rw [List.getElem?_eq_none];rw [hlen];exact Nat.le_refl _) fun h₃ hk₃=>?_
  have hk₄:∀ b o,b∉[e,it]→s'.heap.get? b=some o→h₃.get? b=some o:=fun b o hb x=>hk₃ b o (own1 b o hb).2 x
  have G₄:St prog w B φ' σ' { s' with heap:=h₃ }:=G'.butL (s':={ s' with heap:=h₃ }) hk₄ ownφ ownB ownS
  exact wpAny_execs_nil ⟨φ',σ',tStep h₃ hk₄,G₄,.next,ρ',rfl,L'.butL hk₄ ownF ownS ownN,hend ρ' σ' hC hIv⟩
end
end Mine
namespace Mine
open PySem PySem.W PySem.Calls PyProof.Rows
section
variable {prog:Program} {w:World} {B:Shared} {mg mb:Str→Option Value} {φ φ':List Addr} {σ σ':List AObj} {s s':Shared} {env:Env} {ρ l:List (Str×V)} {A:Around} {X:XT} {Q:V→List AObj→Prop}
theorem X_fore {xk xn:Str} {pk pn pt pe pos pos':Pos} {ctx:_} {arg:Expr} {body rest:List Stmt} {Q:Fl→List (Str×V)→List AObj→Prop} {k:Nat} {es:List (Key×V)} {e:Option Nat} {ι:Type} (D:Nat→ι→Prop) (l:Nat→ι→List (Str×V)) (f:Nat→ι→List AObj) (g₀:ι)
  (be:Bi B mg mb "enumerate" (.type "enumerate")) (hh:A.handled=none) (hσ:σ[k]?=some (.dict es e))
  (hi:∀ ep,WEs prog w B A env [arg] ρ (pin σ k es ep) (fun vs σ'=>vs=[.ref k]∧σ'=pin σ k es ep) X)
  (h1:D 0 g₀) (h2:σ=f 0 g₀) (h4:Sub (l 0 g₀) ρ) (hf:∀ i g,D i g→(f i g)[k]?=some (.dict es e))
  (hb:∀ ep i g,i < es.length→D i g→WX prog w B A env body ((xn,keyAt es i) :: (xk,.int i) :: l i g) (pin (f i g) k es ep) (turnD k es e ep (D (i+1)) (l (i+1)) (f (i+1)) (seqQ prog w B A env rest Q X)) (fun _ _ _ _=>False))
  (he:∀ g,D es.length g→WX prog w B A env rest (l es.length g) (f es.length g) Q X)
  (hxk:env.kindOf xk=some .local:=by kernel_rfl!) (hxn:env.kindOf xn=some .local:=by kernel_rfl!)
  (hx:env.kindOf ("enumerate":Str)=some .globalImplicit:=by kernel_rfl!)
  (hp:∀ pos,(backTo pos (starEach [arg] env)).any (·.1)=false:=by intro _;with_unfolding_all rfl)
  (hs:∀ v,foldedSetIterable (.Call (.Name "enumerate" pe) [arg] [] pos') env v=pure v:=by intro _;with_unfolding_all rfl) :
  WX prog w B A env (.For (.Tuple [.Name xk pk,.Name xn pn] ctx pt) (.Call (.Name "enumerate" pe) [arg] [] pos') body [] pos :: rest) ρ σ Q X:=by
 refine X_cons fun φ s G L=>?_
 obtain ⟨ep,hep,G',_⟩:=G.pin hσ
 have main:WX1 prog w B A env (.For (.Tuple [.Name xk pk,.Name xn pn] ctx pt) (.Call (.Name "enumerate" pe) [arg] [] pos') body [] pos) ρ (pin σ k es ep) (fun fl ρ' σ'=>σ'[k]?=some (.dict es (some ep))∧seqQ prog w B A env rest Q X fl ρ' (σ'.set k (.dict es e))) X:=by
  refine X_enum1 (ep:=ep) be hh (pin_at hσ) (hi ep) (fun i ρ' σ'=>∃ g,D i g∧σ'=pin (f i g) k es ep∧Sub (l i g) ρ') ⟨g₀,h1,by rw [← h2],h4⟩ ?_ ?_ hxk hxn hx hp hs
  ·rintro i ρ₂ σ₂ hi' hC ⟨g,hD,rfl,hs'⟩
   refine X_weak hs'.both.both fun φ s G L=>wpAny_mono (hb ep i g hi' hD φ s G L) (fun v s₁ hx=>?_) fun _ _ x=>x
   obtain ⟨φ₁,σ₃,t₁,G₁,fl,ρ',hf',L₁,q⟩:=hx
   refine ⟨φ₁,σ₃,t₁,G₁,fl,ρ',hf',L₁,?_⟩
   cases fl with
   | next=>obtain ⟨g',q1,q2,q4⟩:=q;exact ⟨by rw [q2];exact pin_at (hf _ _ q1),g',q1,q2,q4⟩
   | cont=>obtain ⟨g',q1,q2,q4⟩:=q;exact ⟨by rw [q2];exact pin_at (hf _ _ q1),g',q1,q2,q4⟩
   | brk=>exact q
   | ret y=>exact q
  ·rintro ρ₂ σ₂ hC ⟨g,hD,rfl,hs'⟩
   refine ⟨hC,?_⟩
   rw [pin_set (hf _ _ hD)]
   exact X_weak hs' (he g hD)
 refine wpAny_mono (main φ s G' L) (fun v s₁ hx=>?_) fun _ _ x=>x
 obtain ⟨φ₁,σ₁,t₁,G₁,fl,ρ₁,hf',L₁,q1,q2⟩:=hx
 exact ⟨φ₁,σ₁.set k (.dict es e),t₁,G₁.unpin q1 hep,fl,ρ₁,hf',L₁,q2⟩
theorem pin_get {j k:Nat} {es es':List (Key×V)} {e e':Option Nat} {ep:Nat} (hj:σ[j]?=some (.dict es' e')) (hk:σ[k]?=some (.dict es e)):∃ e'',(pin σ k es ep)[j]?=some (.dict es' e''):=by
 by_cases h:j=k
 ·subst h;rw [hj] at hk;cases hk;exact ⟨_,pin_at hj⟩
 ·exact ⟨e',by rw [pin_ne h];exact hj⟩
theorem pin_end_at {k:Nat} {es:List (Key×V)} {ep:Nat} {x:AObj} (h:k < σ.length):(pin (σ++[x]) k es ep)[σ.length]?=some x:=by rw [pin_ne (by (exact Nat.ne_of_gt ‹_›))];simp
theorem pin_end_set {k:Nat} {es:List (Key×V)} {ep:Nat} {x y:AObj} (h:k < σ.length):(pin (σ++[x]) k es ep).set σ.length y=pin (σ++[y]) k es ep:=by
 unfold pin
 rw [List.set_append_left _ _ h,List.set_append_left _ _ h]
 have hl:σ.length=(σ.set k (AObj.dict es (some ep))).length:=by simp
 rw [hl,List.set_append_right _ _ (Nat.le_refl _)]
 simp
theorem up_at {k:Nat} {x:AObj} {more:List AObj} (h:σ[k]?=some x):(σ++more)[k]?=some x:=by rw [List.getElem?_append_left (List.getElem?_eq_some_iff.mp h).1];exact h
theorem at_end' {a b x:AObj}:(σ++[a]++[b])[(σ++[x]).length]?=some b:=by simp
theorem S_l0 {value slice:Expr} {k:Nat} {x:V} {xs:List V} (hσ:σ[k]?=some (.list (x :: xs))) (q:Q x σ) (hs:PlainSlice slice:=by with_unfolding_all exact fun _ _=>rfl):WSub prog w B A value slice (.ref k) (.int 0) σ Q X :=
 S_list hσ (by (exact Int.natCast_nonneg _)) (by simp only [List.length_cons];exact qBx) (by (exact Int.natCast_nonneg _)) q hs
theorem at_len {k:Nat} {x:AObj} (h:σ[k]?=some x):k < σ.length:=(List.getElem?_eq_some_iff.mp h).1
theorem O_eq_pair {a b c d:Int} (hu:A.units+100 < cLine) (q:Q (.bool (decide (a=c∧b=d))) σ):W2 prog w B A (compareOp .Eq) (.tup [.int a,.int b]) (.tup [.int c,.int d]) σ Q X:=by
 refine O_eqd (.tup (.cons (.int _) (.cons (.int _) .nil))) (.tup (.cons (.int _) (.cons (.int _) .nil))) rfl rfl (by have:min (PyData.tuple [.int a,.int b]).depth (PyData.tuple [.int c,.int d]).depth≤100:=(by simp [PyData.depth,PyData.depthAll]);exact qBN hu this) ?_
 have e:PyData.eqv (.tuple [.int a,.int b]) (.tuple [.int c,.int d])=decide (a=c∧b=d):=by simp [PyData.eqv,PyData.eqvAll];rfl
 rw [e];exact q
theorem O_ne_pair {a b c d:Int} (hu:A.units+100 < cLine) (q:Q (.bool (!decide (a=c∧b=d))) σ):W2 prog w B A (compareOp .NotEq) (.tup [.int a,.int b]) (.tup [.int c,.int d]) σ Q X:=by
 refine O_ned (.tup (.cons (.int _) (.cons (.int _) .nil))) (.tup (.cons (.int _) (.cons (.int _) .nil))) rfl rfl (by have:min (PyData.tuple [.int a,.int b]).depth (PyData.tuple [.int c,.int d]).depth≤100:=(by simp [PyData.depth,PyData.depthAll]);exact qBN hu this) ?_
 have e:PyData.eqv (.tuple [.int a,.int b]) (.tuple [.int c,.int d])=decide (a=c∧b=d):=by simp [PyData.eqv,PyData.eqvAll];rfl
 rw [e];exact q
theorem dats_strs:∀ l:List Str,Dats σ (l.map V.str) (l.map PyData.str)
 | []=>.nil
 | x :: r=>.cons (.str x) (dats_strs r)
theorem eqvAll_strs:∀ l:List Str,PyData.eqvAll (l.map PyData.str) (l.map PyData.str)=true
 | []=>by simp [PyData.eqvAll]
 | x :: r=>by simp [PyData.eqvAll,PyData.eqv,eqvAll_strs r]
theorem depth_strs:∀ l:List Str,PyData.depthAll (l.map PyData.str)≤1
 | []=>by simp [PyData.depthAll]
 | x :: r=>by have:=depth_strs r;simp [PyData.depthAll,PyData.depth];omega
theorem canLay_strs:∀ l:List Str,(∀ x∈l,PyData.strOk x=true)→PyData.canLayAll0 (l.map PyData.str)=true
 | [],_=>by simp [PyData.canLayAll0]
 | x :: r,h=>by
  have h1:=h x (.head _)
  have h2:=canLay_strs r fun y hy=>h y (.tail _ hy)
  simp [PyData.canLayAll0,PyData.canLay0,h1,h2]
theorem O_ne_strs {j k:Nat} {l:List Str} (hj:σ[j]?=some (.list (l.map V.str))) (hk:σ[k]?=some (.list (l.map V.str))) (hl:∀ x∈l,PyData.strOk x=true) (hn:l.length≤sizeLine) (hu:A.units+100 < cLine) (q:Q (.bool false) σ):W2 prog w B A (compareOp .NotEq) (.ref j) (.ref k) σ Q X:=by
 have hd:=depth_strs l
 have c:(PyData.list (l.map PyData.str)).canLay0=true:=by simp only [PyData.canLay0];exact canLay_strs l hl
 refine O_ned (.list hj (dats_strs l)) (.list hk (dats_strs l)) c c (by simp only [Nat.min_self,PyData.depth];exact qFm hu hd) ?_
 simp only [PyData.eqv,eqvAll_strs]
 exact q
end
end Mine
namespace Mine
open PySem PySem.W PySem.Calls PyProof.Rows
theorem slot_si_next:Slot "set_iterator" "__next__" "set_iterator.__next__" :=
 .of (owner:="set_iterator") (n:="__next__") (by rw [typeLookup_type,builtinLookup_eq_fast];kernel_rfl) (by decide +kernel) (by decide +kernel) (by decide +kernel)
  (by first | exact .inl (by decide +kernel) | exact .inr (by decide +kernel)) (by rw [isSubtype_type];kernel_rfl)
theorem entry_si_next:entryFor table "set_iterator.__next__" = some Builtin.«set_iterator.__next__»:=entryFor_of_tree (by kernel_rfl)
theorem args_si_next (a:Value):argsOk "set_iterator.__next__" ⟨[a],[]⟩:=by unfold argsOk;kernel_rfl
theorem slot_si_iter:Slot "set_iterator" "__iter__" "set_iterator.__iter__" :=
 .of (owner:="set_iterator") (n:="__iter__") (by rw [typeLookup_type,builtinLookup_eq_fast];kernel_rfl) (by decide +kernel) (by decide +kernel) (by decide +kernel)
  (by first | exact .inl (by decide +kernel) | exact .inr (by decide +kernel)) (by rw [isSubtype_type];kernel_rfl)
theorem entry_si_iter:entryFor table "set_iterator.__iter__" = some Builtin.«dict_keyiterator.__iter__» :=
 entryFor_alias (id':="dict_keyiterator.__iter__") (by kernel_rfl) rfl (by decide +kernel) (by kernel_rfl)
theorem args_si_iter (a:Value):argsOk "set_iterator.__iter__" ⟨[a],[]⟩:=by unfold argsOk;kernel_rfl
theorem entry_set_iter:entryFor table "set.__iter__" = some Builtin.«frozenset.__iter__» :=
 entryFor_alias (id':="frozenset.__iter__") (by kernel_rfl) rfl (by decide +kernel) (by kernel_rfl)
theorem erase_perm {α:Type}:∀ (l:List α) (i:Nat) (h:i < l.length),(l[i] :: l.eraseIdx i).Perm l
 | [],i,h=>absurd h (Nat.not_lt_zero i)
 | x :: r,0,h=>.refl _
 | x :: r,i+1,h=>(List.Perm.swap x _ _).trans (List.Perm.cons x (erase_perm r i (Nat.lt_of_succ_lt_succ h)))
theorem pick_perm {α:Type} (next:Nat→Nat):∀ (n k:Nat) (left:List α) (out:Array α),left.length=n→(pickOrder.go next n k left out).toList.Perm (out.toList++left)
 | 0,k,left,out,e=>by obtain rfl:=List.eq_nil_of_length_eq_zero e;simp [pickOrder.go]
 | n+1,k,left,out,e=>by
  have hlt:next k % left.length < left.length:=Nat.mod_lt _ (by ((exact qFa e)))
  unfold pickOrder.go
  rw [List.getElem?_eq_getElem hlt]
  dsimp only
  refine (pick_perm next n (k+1) _ _ (by rw [List.length_eraseIdx_of_lt hlt,e];rfl)).trans ?_
  rw [Array.toList_push,List.append_assoc]
  exact List.Perm.append_left _ (erase_perm _ _ hlt)
theorem pickOrder_perm {α:Type} (next:Nat→Nat) (xs:Array α):(pickOrder next xs).toList.Perm xs.toList:=by
 have:=pick_perm next xs.size 0 xs.toList #[] (by simp)
 simpa [pickOrder] using this
theorem setNext_eq (a:Addr) (slot given epochThen:Nat):setNext a slot given epochThen=(do
  let (es,epoch,t) ← setState a
  if ← setsByText then
   if epoch != epochThen then unsupported "set_iterator.__next__:elements-changed"
   return ((← setWalk a)[given]?).map fun e=>(e.2,slot)
  if (!t.plain && decide (es.size > 1))=true then unsupported "set_iterator.__next__:the-table-is-plain-no-more"
  (if (!t.led && !es.isEmpty)=true then unsupported "set:maker-not-led" else pure ():Sem Unit)
  let i:=SetTable.below t.place slot
  return match es[i]?,t.place[i]? with
   | some (_,x),some j=>some (x,j+1)
   | _,_=>none):=rfl
theorem setWalk_eq (a:Addr):setWalk a=(do
  let (es,epoch,t) ← setState a
  if ← setsByText then return pickOrder ((← ask).params.setOrder a epoch) es
  if (!t.plain && decide (es.size > 1))=true then return (← drawOrder es.size es.toList).toArray
  (if (!t.led && decide (es.size > 1))=true then unsupported "set:maker-not-led" else pure ():Sem Unit)
  return es):=rfl
theorem setDrawn_eq (a:Addr):setDrawn a=(do
  let (es,_,t) ← setState a
  let byText ← setsByText
  return !byText && (!t.plain && decide (es.size > 1))):=rfl
noncomputable def SetAt (h:Heap) (a:Addr) (es:Array (Int×Value)) (ep:Nat) (t:SetTable):Prop:=∃ o,h.get? a=some o∧o.ExactSet∧o.data=.set es ep t
noncomputable def IsSI (h:Heap) (I:Addr) (f:Value) (i:Nat) (a:Addr) (n ep:Nat):Prop :=
 h.get? I=some { cls:=.type "set_iterator",data:=.fields #[f,.int i 0,.ref a,.int n 0,.int ep 0] }
section
variable {prog:Program} {w:World} {A:Around} {E:Value→Shared→Prop} {s:Shared} {a I:Addr} {es:Array (Int×Value)} {ep:Nat} {t:SetTable}
theorem wpAny_byText {Q:Bool→Shared→Prop} (h:Q (byText w) s):wpAny (model prog w) A setsByText Q E s:=by
 unfold setsByText
 exact wpAny_bind (wpAny_askSetting (wpAny_pure h))
theorem wpAny_choose {n:Nat} {src:Source} {Q:Nat→Shared→Prop} (hn:n≠0) (h:∀ i d,i < n→Q i { s with drawn:=d }):wpAny (model prog w) A (choose src n) Q E s :=
 fun _ _ _=>⟨hn,h _ _ (Nat.mod_lt _ (Nat.pos_of_ne_zero hn))⟩
theorem wpAny_drawOrder {α:Type} {Q:List α→Shared→Prop}:∀ (n:Nat) (xs:List α) (s:Shared),xs.length=n→(∀ l d,l.Perm xs→Q l { s with drawn:=d })→wpAny (model prog w) A (drawOrder n xs) Q E s
 | 0,xs,s,e,h=>by
  obtain rfl:=List.eq_nil_of_length_eq_zero e
  unfold drawOrder
  exact wpAny_pure (h [] s.drawn (.refl _))
 | n+1,[],s,e,h=>by simp at e
 | n+1,x :: xs,s,e,h=>by
  unfold drawOrder
  refine wpAny_bind (wpAny_choose (by simp) fun i d hi=>?_)
  rw [List.getElem?_eq_getElem hi]
  dsimp only
  refine wpAny_bind (wpAny_drawOrder n _ _ (by rw [List.length_eraseIdx_of_lt hi,e];rfl) fun l d' hl=>wpAny_pure (h _ d' ?_))
  exact (List.Perm.cons _ hl).trans (erase_perm _ _ hi)
theorem SetAt.typeIs (h:SetAt s.heap a es ep t):s.TypeIs (.ref a) "set":=let ⟨o,ho,hx,_⟩:=h;⟨o,ho,hx.1⟩
theorem SetAt.at {h h':Heap} (x:SetAt h a es ep t) (e:∀ o,h.get? a=some o→h'.get? a=some o):SetAt h' a es ep t:=let ⟨o,ho,r⟩:=x;⟨o,e o ho,r⟩
theorem wp_state {Q:(Array (Int×Value)×Nat×SetTable)→Shared→Prop} (h:SetAt s.heap a es ep t) (hf:t.fits es.size=true) (hq:Q (es,ep,t) s):wpAny (model prog w) A (setState a) Q E s:=by
 obtain ⟨o,ho,_,hd⟩:=h
 exact wpAny_setState_of ho hd hf hq
noncomputable def RowsOf (L:List (Int×Value)) (i:Nat) (v:Value):Prop:=∃ e,L[i]?=some e∧v=e.2
theorem stop_next {Q:Option Value→Shared→Prop} {R:Value→Shared→Prop} {P:Fin→Shared→Prop} (hh:A.handled=none) (h:∀ h',(∀ b o,s.heap.get? b=some o→h'.get? b=some o)→Q none { s with heap:=h' }) :
  wpAny (model prog w) A.in1 (newExc (.type "StopIteration") [] >>= fun e=>(raiseNew e:Sem Fin)) P
   (fun e s'=>wpAny (model prog w) A (isInstance e (.type "StopIteration")) (fun b s''=>b=true∧Q none s'') R s') s:=by
 refine wpAny_bind ?_
 simp only [newExc,newTuple]
 refine wpAny_bind (wpAny_newObj_type ?_ (by size_fits))
 refine wpAny_bind (m:=firstArgMember _ _) (wpAny_of_eq (a:=Value.none) (by first | rfl | (simp only [firstArgMember];rfl)) ?_)
 refine wpAny_newObj_type ?_ (by size_fits)
 simp only [raiseNew]
 refine wpAny_bind (wpAny_handled ?_)
 rw [show A.in1.handled=none from hh]
 refine wpAny_bind (wpAny_pure (wpAny_throw ?_))
 exact wpAny_isInstance (T:="StopIteration") (b:=true) ⟨_,Heap.get?_push_size _ rfl,rfl⟩ isSubtype_stop ⟨rfl,h _ fun b o e=>Heap.get?_push_of_some _ (Heap.get?_push_of_some _ e)⟩
end
end Mine
namespace Mine
open PySem PySem.W PySem.Calls PyProof.Rows
section
variable {prog:Program} {w:World} {A:Around} {E:Value→Shared→Prop} {s:Shared} {a I T:Addr} {es:Array (Int×Value)} {ep:Nat} {t:SetTable} {i:Nat}
theorem si_open {f:Value} {Q:Option Value→Shared→Prop} (hI:IsSI s.heap I f i a es.size ep) (hS:SetAt s.heap a es ep t) (hf:t.fits es.size=true)
  (h:wpAny (model prog w) A.in1 (do
   if let .int slot _:=f then
    match ← setNext a slot.toNat (i:Int).toNat (ep:Int).toNat with
    | some (x,next) =>
     setField (.ref I) 0 (rawInt next)
     setField (.ref I) 1 (rawInt ((i:Int)+1))
     ret x
    | none=>setField (.ref I) 2 .none;raiseNew (← newExc (.type "StopIteration") [])
   else
    let some places ← seqItems? f | unsupported "internal:set_iterator"
    match places[(i:Int).toNat]? with
    | some (.int place _) =>
     let x ← setNextDrawn a place.toNat (ep:Int).toNat
     setField (.ref I) 1 (rawInt ((i:Int)+1))
     ret x
    | some _=>unsupported "internal:set_iterator"
    | none=>setField (.ref I) 0 (rawInt 0);setField (.ref I) 2 .none;raiseNew (← newExc (.type "StopIteration") []))
   (fun fin s'=>∃ v,fin=.done (.ret v)∧Q (some v) s')
   (fun e s'=>wpAny (model prog w) A (isInstance e (.type "StopIteration")) (fun b s''=>b=true∧Q none s'') E s') s):wpAny (model prog w) A (pyNext (.ref I)) Q E s:=by
 have hT:s.TypeIs (.ref I) "set_iterator":=⟨_,hI,rfl⟩
 unfold pyNext
 refine wpAny_bind (wpAny_attempt (wpAny_callSpecial?_slot (name:=Str.ofString "__next__") hT slot_si_next (wpAny_call_entry slot_si_next hT entry_si_next ?_ (args_si_next _))))
 show wpAny _ _ (fieldsOf (.ref I) >>= _) _ _ s
 refine wpAny_bind (wpAny_fieldsOf hI rfl ?_)
 obtain ⟨o,ho,_,hd⟩:=hS
 show wpAny _ _ (setEntries a >>= _) _ _ s
 refine wpAny_bind (wpAny_setEntries_of ho hd hf ?_)
 show wpAny _ _ (if ((es.size:Int) != (es.size:Int))=true then _ else _) _ _ s
 rw [if_neg (by simp)]
 refine wpAny_mono h (fun fin s' hx=>?_) fun e s' hx=>?_
 ·obtain ⟨v,rfl,hq⟩:=hx
  exact ⟨v,rfl,wpAny_pure hq⟩
 ·refine wpAny_bind (wpAny_mono hx (fun b s'' hb=>?_) fun _ _ x=>x)
  obtain ⟨rfl,hq⟩:=hb
  exact wpAny_pure hq
theorem si_item_D {ps:List Nat} {p:Nat} {e:Int×Value} {Q:Option Value→Shared→Prop} (hI:IsSI s.heap I (.ref T) i a es.size ep) (hS:SetAt s.heap a es ep t) (hf:t.fits es.size=true) (hT:s.heap.get? T=some { cls:=.type "tuple",data:=.seq (ps.map fun (p:Nat)=>rawInt p).toArray })
  (hp:ps[i]?=some p) (he:es[p]?=some e) (hQ:∀ h',IsSI h' I (.ref T) (i+1) a es.size ep→Heap.SameBut I s.heap h'→Q (some e.2) { s with heap:=h' }):wpAny (model prog w) A (pyNext (.ref I)) Q E s:=by
 refine si_open hI hS hf ?_
 show wpAny _ _ (seqItems? (.ref T) >>= _) _ _ s
 refine wpAny_bind (wpAny_seqItems hT rfl ?_)
 have e1:((ps.map fun (p:Nat)=>rawInt p).toArray)[(i:Int).toNat]?=some (.int p 0):=by
  rw [Int.toNat_natCast,List.getElem?_toArray,List.getElem?_map,hp];rfl
 dsimp only
 rw [e1]
 dsimp only
 refine wpAny_bind ?_
 unfold setNextDrawn
 refine wpAny_bind (wp_state hS hf ?_)
 dsimp only
 rw [Int.toNat_natCast,Int.toNat_natCast,if_neg (by simp),he]
 refine wpAny_pure ?_
 refine wpAny_bind (wpAny_setField_rec hI (by simp) fun h' hI' hs=>wpAny_pure ⟨_,rfl,hQ h' ?_ hs⟩)
 exact hI'
theorem si_done_D {ps:List Nat} {Q:Option Value→Shared→Prop} (hh:A.handled=none) (hI:IsSI s.heap I (.ref T) i a es.size ep) (hS:SetAt s.heap a es ep t) (hf:t.fits es.size=true) (hT:s.heap.get? T=some { cls:=.type "tuple",data:=.seq (ps.map fun (p:Nat)=>rawInt p).toArray })
  (hp:ps[i]?=none) (hQ:∀ h',(∀ b o,b≠I→s.heap.get? b=some o→h'.get? b=some o)→Q none { s with heap:=h' }):wpAny (model prog w) A (pyNext (.ref I)) Q E s:=by
 refine si_open hI hS hf ?_
 show wpAny _ _ (seqItems? (.ref T) >>= _) _ _ s
 refine wpAny_bind (wpAny_seqItems hT rfl ?_)
 have e1:((ps.map fun (p:Nat)=>rawInt p).toArray)[(i:Int).toNat]?=none:=by
  rw [Int.toNat_natCast,List.getElem?_toArray,List.getElem?_map,hp];rfl
 dsimp only
 rw [e1]
 dsimp only
 refine wpAny_bind (wpAny_setField_rec hI (by simp) fun h₁ hI₁ hs₁=>wpAny_bind (wpAny_setField_rec (s:={ s with heap:=h₁ }) hI₁ (by simp) fun h₂ hI₂ hs₂=>?_))
 exact stop_next (s:={ s with heap:=h₂ }) hh fun h' hk=>hQ h' fun b o hb e=>hk b o (hs₂.extBut b o hb (hs₁.extBut b o hb e))
theorem si_item_T {e:Int×Value} {Q:Option Value→Shared→Prop} (hbt:byText w=true) (hI:IsSI s.heap I (.int 0 0) i a es.size ep) (hS:SetAt s.heap a es ep t) (hf:t.fits es.size=true)
  (he:(pickOrder (w.params.setOrder a ep) es)[i]?=some e) (hQ:∀ h',IsSI h' I (.int 0 0) (i+1) a es.size ep→Heap.SameBut I s.heap h'→Q (some e.2) { s with heap:=h' }):wpAny (model prog w) A (pyNext (.ref I)) Q E s:=by
 refine si_open hI hS hf ?_
 dsimp only
 rw [setNext_eq]
 refine wpAny_bind (wpAny_bind (wp_state hS hf (wpAny_bind (wpAny_byText ?_))))
 rw [hbt]
 simp only [if_true]
 rw [Int.toNat_natCast,if_neg (by simp),setWalk_eq]
 refine wpAny_bind (wpAny_bind (wp_state hS hf (wpAny_bind (wpAny_byText ?_))))
 rw [hbt]
 simp only [if_true]
 refine wpAny_bind (wpAny_askSetting (wpAny_pure (wpAny_pure ?_)))
 rw [Int.toNat_natCast]
 rw [show (pickOrder ((model prog w).w.params.setOrder a ep) es)[i]?=some e from he]
 simp only [Option.map_some]
 refine wpAny_bind (wpAny_setField_rec hI (by simp) fun h₁ hI₁ hs₁=>wpAny_bind (wpAny_setField_rec (s:={ s with heap:=h₁ }) hI₁ (by simp) fun h₂ hI₂ hs₂=>wpAny_pure ⟨_,rfl,hQ h₂ ?_ (hs₁.trans hs₂)⟩))
 exact hI₂
theorem si_done_T {Q:Option Value→Shared→Prop} (hh:A.handled=none) (hbt:byText w=true) (hI:IsSI s.heap I (.int 0 0) i a es.size ep) (hS:SetAt s.heap a es ep t) (hf:t.fits es.size=true)
  (he:(pickOrder (w.params.setOrder a ep) es)[i]?=none) (hQ:∀ h',(∀ b o,b≠I→s.heap.get? b=some o→h'.get? b=some o)→Q none { s with heap:=h' }):wpAny (model prog w) A (pyNext (.ref I)) Q E s:=by
 refine si_open hI hS hf ?_
 dsimp only
 rw [setNext_eq]
 refine wpAny_bind (wpAny_bind (wp_state hS hf (wpAny_bind (wpAny_byText ?_))))
 rw [hbt]
 simp only [if_true]
 rw [Int.toNat_natCast,if_neg (by simp),setWalk_eq]
 refine wpAny_bind (wpAny_bind (wp_state hS hf (wpAny_bind (wpAny_byText ?_))))
 rw [hbt]
 simp only [if_true]
 refine wpAny_bind (wpAny_askSetting (wpAny_pure (wpAny_pure ?_)))
 rw [Int.toNat_natCast]
 rw [show (pickOrder ((model prog w).w.params.setOrder a ep) es)[i]?=none from he]
 simp only [Option.map_none]
 refine wpAny_bind (wpAny_setField_rec hI (by simp) fun h₁ hI₁ hs₁=>?_)
 exact stop_next (s:={ s with heap:=h₁ }) hh fun h' hk=>hQ h' fun b o hb e=>hk b o (hs₁.extBut b o hb e)
theorem si_item_1 {e:Int×Value} {Q:Option Value→Shared→Prop} (hbt:byText w=false) (hled:t.led=true) (h1:es.size=1) (hI:IsSI s.heap I (.int 0 0) 0 a es.size ep) (hS:SetAt s.heap a es ep t) (hf:t.fits es.size=true)
  (he:es[0]?=some e) (hQ:∀ (sl:Nat) h',SetTable.below t.place sl=1→IsSI h' I (.int sl 0) 1 a es.size ep→Heap.SameBut I s.heap h'→Q (some e.2) { s with heap:=h' }):wpAny (model prog w) A (pyNext (.ref I)) Q E s:=by
 obtain ⟨j,hj⟩:∃ j,t.place = #[j]:=by
  have:t.place.size=1:=by
   have:=hf
   unfold SetTable.fits at this
   simp only [Bool.and_eq_true,beq_iff_eq] at this
   rw [this.1,h1]
  exact Array.size_eq_one_iff.mp this
 refine si_open hI hS hf ?_
 dsimp only
 rw [setNext_eq]
 refine wpAny_bind (wpAny_bind (wp_state hS hf (wpAny_bind (wpAny_byText ?_))))
 rw [hbt]
 simp only [Bool.false_eq_true,if_false]
 rw [if_neg (by rw [h1];simp),hled]
 simp only [Bool.not_true,Bool.false_and,Bool.false_eq_true,if_false]
 refine wpAny_bind (wpAny_pure (wpAny_pure ?_))
 have b0:SetTable.below t.place (0:Int).toNat=0:=by rw [hj];simp [SetTable.below,SetTable.below.go]
 rw [b0,he,hj]
 simp only [List.getElem?_toArray,List.getElem?_cons_zero]
 refine wpAny_bind (wpAny_setField_rec hI (by simp) fun h₁ hI₁ hs₁=>wpAny_bind (wpAny_setField_rec (s:={ s with heap:=h₁ }) hI₁ (by simp) fun h₂ hI₂ hs₂=>wpAny_pure ⟨_,rfl,hQ (j+1) h₂ ?_ ?_ (hs₁.trans hs₂)⟩))
 ·rw [hj];simp [SetTable.below,SetTable.below.go]
 ·exact hI₂
theorem si_done_1 {sl:Nat} {Q:Option Value→Shared→Prop} (hh:A.handled=none) (hbt:byText w=false) (hled:t.led=true) (h1:es.size≤1) (hI:IsSI s.heap I (.int sl 0) i a es.size ep) (hS:SetAt s.heap a es ep t) (hf:t.fits es.size=true)
  (hb:SetTable.below t.place sl=es.size) (hQ:∀ h',(∀ b o,b≠I→s.heap.get? b=some o→h'.get? b=some o)→Q none { s with heap:=h' }):wpAny (model prog w) A (pyNext (.ref I)) Q E s:=by
 refine si_open hI hS hf ?_
 dsimp only
 rw [setNext_eq]
 refine wpAny_bind (wpAny_bind (wp_state hS hf (wpAny_bind (wpAny_byText ?_))))
 rw [hbt]
 simp only [Bool.false_eq_true,if_false]
 rw [if_neg (by simp;intro _;omega),hled]
 simp only [Bool.not_true,Bool.false_and,Bool.false_eq_true,if_false]
 refine wpAny_bind (wpAny_pure (wpAny_pure ?_))
 rw [Int.toNat_natCast,hb,Array.getElem?_eq_none (Nat.le_refl _)]
 dsimp only
 refine wpAny_bind (wpAny_setField_rec hI (by simp) fun h₁ hI₁ hs₁=>?_)
 exact stop_next (s:={ s with heap:=h₁ }) hh fun h' hk=>hQ h' fun b o hb e=>hk b o (hs₁.extBut b o hb e)
end
end Mine
namespace Mine
open PySem PySem.W PySem.Calls PyProof.Rows
section
variable {prog:Program} {w:World} {A:Around} {E:Value→Shared→Prop} {s:Shared} {a I T:Addr} {es:Array (Int×Value)} {ep:Nat} {t:SetTable}
theorem si_self {f:Value} {i n:Nat} {Q:Value→Shared→Prop} (hI:IsSI s.heap I f i a n ep) (h:Q (.ref I) s):wpAny (model prog w) A (pyIter (.ref I)) Q E s:=by
 have hT:s.TypeIs (.ref I) "set_iterator":=⟨_,hI,rfl⟩
 refine wpAny_pyIter_slot hT slot_si_iter (wpAny_call_entry slot_si_iter hT entry_si_iter ?_ (args_si_iter _))
 show wpAny _ _ (ret (.ref I)) _ _ s
 exact wpAny_pure ⟨_,rfl,"set_iterator",_,hT,slot_si_next.lookup,h⟩
theorem walks_D (hh:A.handled=none) (hf:t.fits es.size=true) {ps:List Nat} {L:List (Int×Value)} (hn:L.length=es.size) (hps:ps.length=es.size) (hL:∀ (i p:Nat),ps[i]?=some p→∃ e,L[i]?=some e∧es[p]?=some e) (haI:a≠I) (hTI:T≠I) :
  Walks prog w A I [I,a,T] [I] es.size (RowsOf L) (fun i h=>IsSI h I (.ref T) i a es.size ep∧SetAt h a es ep t∧h.get? T=some { cls:=.type "tuple",data:=.seq (ps.map fun (p:Nat)=>rawInt p).toArray }) where
 sub:=fun b hb=>by rw [List.mem_singleton.mp hb];exact .head _
 frame:=fun i h h' st hk=>⟨hk I (.head _) _ st.1,st.2.1.at fun o e=>hk a (.tail _ (.head _)) o e,hk T (.tail _ (.tail _ (.head _))) _ st.2.2⟩
 item:=fun i s Q E hi st hq=>by
  obtain ⟨h1,h2,h3⟩:=st
  have hp:ps[i]?=some ps[i]:=List.getElem?_eq_getElem (by exact qBo hps hi)
  obtain ⟨e,he1,he2⟩:=hL i _ hp
  refine si_item_D h1 h2 hf h3 hp he2 fun h' hI' hs=>hq _ h' s.toks ⟨e,he1,rfl⟩ ⟨hI',h2.at fun o x=>hs.extBut a o haI x,hs.extBut T _ hTI h3⟩ fun b o hb x=>hs.extBut b o (fun h=>hb (List.mem_singleton.mpr h)) x
 done:=fun s Q E st hq=>si_done_D hh st.1 st.2.1 hf st.2.2 (List.getElem?_eq_none (Nat.le_of_eq hps)) fun h' hk=>hq h' s.toks fun b o hb x=>hk b o (fun h=>hb (List.mem_singleton.mpr h)) x
 self:=fun i s Q E st hq=>si_self st.1 hq
theorem walks_T (hh:A.handled=none) (hbt:byText w=true) (hf:t.fits es.size=true) (haI:a≠I) :
  Walks prog w A I [I,a] [I] es.size (RowsOf (pickOrder (w.params.setOrder a ep) es).toList) (fun i h=>IsSI h I (.int 0 0) i a es.size ep∧SetAt h a es ep t) where
 sub:=fun b hb=>by rw [List.mem_singleton.mp hb];exact .head _
 frame:=fun i h h' st hk=>⟨hk I (.head _) _ st.1,st.2.at fun o e=>hk a (.tail _ (.head _)) o e⟩
 item:=fun i s Q E hi st hq=>by
  have hlen:(pickOrder (w.params.setOrder a ep) es).size=es.size:=by rw [← Array.length_toList,(pickOrder_perm _ _).length_eq,Array.length_toList]
  have he:(pickOrder (w.params.setOrder a ep) es)[i]?=some (pickOrder (w.params.setOrder a ep) es)[i]:=Array.getElem?_eq_getElem (by exact qFM hi hlen)
  refine si_item_T hbt st.1 st.2 hf he fun h' hI' hs=>hq _ h' s.toks ⟨_,by rw [Array.getElem?_toList];exact he,rfl⟩ ⟨hI',st.2.at fun o x=>hs.extBut a o haI x⟩ fun b o hb x=>hs.extBut b o (fun h=>hb (List.mem_singleton.mpr h)) x
 done:=fun s Q E st hq=>by
  have hlen:(pickOrder (w.params.setOrder a ep) es).size=es.size:=by rw [← Array.length_toList,(pickOrder_perm _ _).length_eq,Array.length_toList]
  exact si_done_T hh hbt st.1 st.2 hf (Array.getElem?_eq_none (Nat.le_of_eq hlen)) fun h' hk=>hq h' s.toks fun b o hb x=>hk b o (fun h=>hb (List.mem_singleton.mpr h)) x
 self:=fun i s Q E st hq=>si_self st.1 hq
theorem walks_1 (hh:A.handled=none) (hbt:byText w=false) (hled:t.led=true) (h1:es.size≤1) (hf:t.fits es.size=true) (haI:a≠I) :
  Walks prog w A I [I,a] [I] es.size (RowsOf es.toList) (fun i h=>(∃ sl:Nat,IsSI h I (.int sl 0) i a es.size ep∧(i=0→sl=0)∧(i=es.size→SetTable.below t.place sl=es.size))∧SetAt h a es ep t) where
 sub:=fun b hb=>by rw [List.mem_singleton.mp hb];exact .head _
 frame:=fun i h h' st hk=>by
  obtain ⟨⟨sl,x,y⟩,z⟩:=st
  exact ⟨⟨sl,hk I (.head _) _ x,y⟩,z.at fun o e=>hk a (.tail _ (.head _)) o e⟩
 item:=fun i s Q E hi st hq=>by
  obtain ⟨⟨sl,hI,h0,_⟩,hS⟩:=st
  have hi0:i=0:=by exact qEv h1 hi
  have hsz:es.size=1:=by exact qDL h1 hi
  subst hi0
  obtain rfl:=h0 rfl
  refine si_item_1 hbt hled hsz hI hS hf (Array.getElem?_eq_getElem (by omega)) fun sl h' hb hI' hs=>hq _ h' s.toks ⟨_,by rw [Array.getElem?_toList];exact Array.getElem?_eq_getElem (by omega),rfl⟩ ⟨⟨sl,hI',(fun h=>by exact qDC h),fun _=>by rw [hb,hsz]⟩,hS.at fun o x=>hs.extBut a o haI x⟩ fun b o hb x=>hs.extBut b o (fun h=>hb (List.mem_singleton.mpr h)) x
 done:=fun s Q E st hq=>by
  obtain ⟨⟨sl,hI,_,hb⟩,hS⟩:=st
  exact si_done_1 hh hbt hled h1 hI hS hf (hb rfl) fun h' hk=>hq h' s.toks fun b o hb x=>hk b o (fun h=>hb (List.mem_singleton.mpr h)) x
 self:=fun i s Q E st hq=>by
  obtain ⟨⟨sl,hI,_⟩,_⟩:=st
  exact si_self hI hq
theorem rows_good {L:List (Int×Value)} {ss:List Str} (hin:SetIn w es t ss) (hL:L.Perm es.toList) {acc:Array Value} (h:ItemsOf (RowsOf L) acc es.size):∃ l,StrsAre acc.toList l∧l.Perm ss:=by
 have hlen:acc.toList.length=L.length:=by rw [Array.length_toList,h.1,hL.length_eq,Array.length_toList]
 have e:acc.toList=L.map (·.2):=by
  refine List.ext_getElem? fun i=>?_
  rw [List.getElem?_map]
  cases hv:acc.toList[i]? with
  | none =>
   have:L.length≤i:=by rw [← hlen];exact List.getElem?_eq_none_iff.mp hv
   rw [List.getElem?_eq_none this];rfl
  | some v =>
   obtain ⟨e,he,rfl⟩:=h.2 i v (by rw [← Array.getElem?_toList];exact hv)
   rw [he];rfl
 have hs:∀ M:List (Int×Value),(∀ e∈M,∃ x k,e=(hashStr w x,Value.str x k))→StrsAre (M.map (·.2)) (M.map fun e=>unS e.2):=by
  intro M
  induction M with
  | nil=>intro _;exact .nil
  | cons p r ih =>
   intro hM
   obtain ⟨x,k,rfl⟩:=hM p (.head _)
   exact .cons _ _ (ih fun e he=>hM e (.tail _ he))
 refine ⟨L.map fun e=>unS e.2,by rw [e];exact hs L fun p hp=>hin.txts p (hL.mem_iff.mp hp),(hL.map _).trans hin.perm⟩
theorem hint_set {r:Addr} {Q:Bool→Shared→Prop} (hT:s.TypeIs (.ref r) "set") (h:Q false s):wpAny (model prog w) A (Builtin.List.listLengthHint (.ref r)) Q E s:=by
 unfold Builtin.List.listLengthHint
 refine wpAny_bind (wpAny_specialOf hT PySem.F.slot_set_len.lookup ?_)
 generalize hid:("set.__len__":String)=id0
 wp_delta
 rw [show splitId id0=some ("set","__len__") from by subst hid;decide +kernel]
 subst hid
 refine wpAny_bind (wpAny_isInstance (T:="set") (b:=true) hT (by rw [isSubtype_type];kernel_rfl) ?_)
 refine wpAny_ite_split (fun hab=>absurd hab (by decide)) (fun _=>?_)
 refine wpAny_ite_split (fun _=>?_) (fun hab=>absurd (by decide +kernel) hab)
 exact wpAny_bind (wpAny_typeOf hT (wpAny_pure h))
end
section
variable {prog:Program} {w:World} {a:Addr} {ss:List Str}
theorem src_set:Src prog w "set" a ss.length (fun vs=>∃ l,StrsAre vs l∧l.Perm ss) (fun h=>SetS w h a ss) where
 type:=fun s ⟨o,es,ep,t,ho,hx,_⟩=>⟨o,ho,hx.1⟩
 keep:=fun _ _ hm hk=>hm.at hk
 notList:=by decide
 notTuple:=by decide
 hint:=fun _ _ s _ ⟨o,es,ep,t,ho,hx,_⟩ hq=>hint_set ⟨o,ho,hx.1⟩ hq
 iter:=fun A E s Q hh ⟨o,es,ep,t,ho,hx,hd,hin⟩ hq=>by
  have hS:SetAt s.heap a es ep t:=⟨o,ho,hx,hd⟩
  have hlt:a < s.heap.objs.size:=Heap.lt_size ho
  have hsz:es.size=ss.length:=by rw [← hin.perm.length_eq,List.length_map,Array.length_toList]
  refine wpAny_pyIter_slot hS.typeIs PySem.F.slot_set_iter (wpAny_call_entry PySem.F.slot_set_iter hS.typeIs entry_set_iter ?_ (PySem.F.args_set_iter_1 _))
  unfold Builtin.«frozenset.__iter__» Builtin.Frozenset.slot0 slotArgs
  simp only [List.isEmpty_nil,Bool.not_true,Bool.false_eq_true,↓reduceIte,bind_assoc,List.length_nil,bne_self_eq_false]
  unfold Builtin.Frozenset.addrOf Builtin.Frozenset.sizeOf
  refine wpAny_bind (wpAny_pure ?_)
  try dsimp only
  refine wpAny_bind (wpAny_pure ?_)
  refine wpAny_bind (wpAny_bind (wpAny_setEntries_of ho hd hin.fits (wpAny_pure ?_)))
  rw [setDrawn_eq]
  refine wpAny_bind (wpAny_bind (wp_state hS hin.fits (wpAny_bind (wpAny_byText (wpAny_pure ?_)))))
  rw [← hsz] at hq
  have push:∀ (h:Heap) (ob:Obj) (b:Addr) (o:Obj),h.get? b=some o→(h.push ob).get? b=some o:=fun h ob b o e=>Heap.get?_push_of_some _ e
  cases hbt:byText w with
  | true =>
   simp only [Bool.not_true,Bool.false_and,Bool.false_eq_true,if_false]
   refine wpAny_bind (wpAny_pure (wpAny_bind (wpAny_setEpoch_of ho hd hin.fits ?_)))
   simp only [newFields]
   refine wpAny_bind (wpAny_newObj_type (wpAny_pure ⟨_,rfl,"set_iterator",_,⟨_,Heap.get?_push_size _ rfl,rfl⟩,slot_si_next.lookup,?_⟩))
   refine hq _ _ [s.heap.objs.size,a] _ _ (push _ _) rfl rfl (fun b hb=>?_) (get?_size _) (walks_T (ep:=ep) hh hbt hin.fits (Nat.ne_of_lt hlt)) ⟨Heap.get?_push_size _ rfl,hS.at fun o e=>push _ _ a o e⟩ (fun acc h=>rows_good hin (pickOrder_perm _ _) h)
   rcases List.mem_cons.mp hb with rfl | hb
   ·exact .inr (get?_size _)
   ·exact .inl (List.mem_singleton.mp hb)
  | false =>
   by_cases h1:es.size > 1
   ·have hpl:t.plain=false:=hin.plain.resolve_left (by exact qC3 h1)
    have hc:(!false && (!t.plain && decide (es.size > 1)))=true:=by rw [hpl,decide_eq_true h1];rfl
    rw [if_pos hc]
    refine wpAny_bind (wpAny_drawOrder es.size _ s (by simp) fun ps d hps=>?_)
    have hpl:ps.length=es.size:=by rw [hps.length_eq,List.length_range]
    refine wpAny_bind (wpAny_newTuple ?_ (by rw [List.length_map,hpl];exact fits_of_scanBound hin.small))
    have hS₁:SetAt (s.heap.push { cls:=.type "tuple",data:=.seq (ps.map fun (i:Nat)=>rawInt i).toArray }) a es ep t:=hS.at fun o e=>push _ _ a o e
    obtain ⟨o₁,ho₁,_,hd₁⟩:=id hS₁
    refine wpAny_bind (wpAny_setEpoch_of (s:={ s with heap:=s.heap.push { cls:=.type "tuple",data:=.seq (ps.map fun (i:Nat)=>rawInt i).toArray },drawn:=d }) ho₁ hd₁ hin.fits ?_)
    simp only [newFields]
    refine wpAny_bind (wpAny_newObj_type (wpAny_pure ⟨_,rfl,"set_iterator",_,⟨_,Heap.get?_push_size _ rfl,rfl⟩,slot_si_next.lookup,?_⟩))
    have hmem:∀ p∈ps,p < es.size:=fun p hp=>List.mem_range.mp (hps.mem_iff.mp hp)
    have hz:(s.heap.push { cls:=.type "tuple",data:=.seq (ps.map fun (i:Nat)=>rawInt i).toArray }).objs.size=s.heap.objs.size+1:=Heap.size_push ..
    refine hq _ _ [(s.heap.push { cls:=.type "tuple",data:=.seq (ps.map fun (i:Nat)=>rawInt i).toArray }).objs.size,a,s.heap.objs.size] (RowsOf (ps.map fun p=>es.toList.getD p (0,.none))) _ (fun b o e=>push _ _ b o (push _ _ b o e)) rfl rfl (fun b hb=>?_) (by rw [hz];exact get?_of_ge (Nat.le_succ _)) (walks_D (ep:=ep) (T:=s.heap.objs.size) (ps:=ps) hh hin.fits (by rw [List.length_map,hpl]) hpl (fun i p hp=>?_) (by rw [hz];exact Nat.ne_of_lt (Nat.lt_succ_of_lt hlt)) (by rw [hz];exact Nat.ne_of_lt (Nat.lt_succ_self _))) ⟨Heap.get?_push_size _ rfl,hS₁.at fun o e=>push _ _ a o e,push _ _ _ _ (Heap.get?_push_size _ rfl)⟩ (fun acc h=>rows_good hin ?_ h)
    ·rcases List.mem_cons.mp hb with rfl | hb
     ·exact .inr (by rw [hz];exact get?_of_ge (Nat.le_succ _))
     ·rcases List.mem_cons.mp hb with rfl | hb
      ·exact .inl rfl
      ·rw [List.mem_singleton.mp hb];exact .inr (get?_size _)
    ·have hlt':=hmem p (List.mem_of_getElem? hp)
     refine ⟨es[p],?_,Array.getElem?_eq_getElem hlt'⟩
     rw [List.getElem?_map,hp,Option.map_some,List.getD_eq_getElem?_getD,Array.getElem?_toList,Array.getElem?_eq_getElem hlt'];rfl
    ·refine (hps.map _).trans (List.Perm.of_eq ?_)
     refine List.ext_getElem? fun i=>?_
     rw [List.getElem?_map]
     by_cases hi:i < es.size
     ·rw [List.getElem?_range hi,Option.map_some,List.getD_eq_getElem?_getD,Array.getElem?_toList,Array.getElem?_eq_getElem hi];rfl
     ·rw [List.getElem?_eq_none (by simpa using hi),List.getElem?_eq_none (by simpa using hi)];rfl
   ·have hc:(!false && (!t.plain && decide (es.size > 1)))=false:=by rw [decide_eq_false h1];simp
    rw [if_neg (by rw [hc];exact Bool.false_ne_true)]
    refine wpAny_bind (wpAny_pure (wpAny_bind (wpAny_setEpoch_of ho hd hin.fits ?_)))
    simp only [newFields]
    refine wpAny_bind (wpAny_newObj_type (wpAny_pure ⟨_,rfl,"set_iterator",_,⟨_,Heap.get?_push_size _ rfl,rfl⟩,slot_si_next.lookup,?_⟩))
    have hled:t.led=true:=by rw [hin.led,hbt];rfl
    refine hq _ _ [s.heap.objs.size,a] _ _ (push _ _) rfl rfl (fun b hb=>?_) (get?_size _) (walks_1 (ep:=ep) hh hbt hled (by exact qGK h1) hin.fits (Nat.ne_of_lt hlt)) ⟨⟨0,Heap.get?_push_size _ rfl,(fun _=>rfl),fun h=>?_⟩,hS.at fun o e=>push _ _ a o e⟩ (fun acc h=>rows_good hin (.refl _) h)
    ·rcases List.mem_cons.mp hb with rfl | hb
     ·exact .inr (get?_size _)
     ·exact .inl (List.mem_singleton.mp hb)
    ·have:t.place.size=0:=by
      have:=hin.fits
      unfold SetTable.fits at this
      simp only [Bool.and_eq_true,beq_iff_eq] at this
      rw [this.1];exact h.symm
     rw [Array.eq_empty_of_size_eq_zero this,← h];simp [SetTable.below,SetTable.below.go]
end
end Mine
namespace Mine
open PySem PySem.W PySem.Calls PyProof.Rows
section
variable {prog:Program} {w:World} {A:Around} {E:Value→Shared→Prop} {s:Shared}
noncomputable def newSetObj (w:World):Obj:={ cls:=.type "set",dict:=none,data:=.set #[] 0 (.fresh 0 0 (!byText w)) }
theorem newSet_S {h:Heap} {a:Addr} (e:h.get? a=some (newSetObj w)):SetS w h a [] :=
 ⟨_,#[],0,_,e,⟨rfl,rfl,rfl⟩,rfl,fun e he=>by simp at he,.refl _,by decide,by rfl,rfl,.inl rfl⟩
theorem code_set_new (a:Value) {Q₁:Value→Shared→Prop} (h:Q₁ (.ref s.heap.objs.size) { s with heap:=s.heap.push (newSetObj w) }) :
  codeAny (model prog w) A (.call (.builtin "set.__new__") ⟨[.type "set",a],[]⟩) (wants Q₁ E) s:=by
 refine codeAny_of_tree ?_
 show wpAny _ A.in1 (do checkBuiltinCall "set.__new__" ⟨[.type "set",a],[]⟩;again (.builtin "set.__new__" ⟨[.type "set",a],[]⟩)) _ _ s
 refine wpAny_bind (wpAny_of_eq (PySem.F.newCall_set_1 a) (wpAny_pure ⟨plainId_quiet PySem.F.plain_set_new _,codeAny_builtin PySem.F.entry_set_new ?_⟩))
 rw [Around.under_plainId PySem.F.plain_set_new _]
 unfold Builtin.«set.__new__» Builtin.Frozenset.newClass
 have hsub:=sub_set_self
 obtain ⟨hp,g,d,tk,os⟩:=s
 dsimp only
 wp_walk
 refine wpAny_askSetting (wpAny_pure ?_)
 dsimp only
 simp only [newObj]
 refine wpAny_bind (wpAny_alloc (wpAny_pure ?_))
 exact wpAny_pure h
set_option maxHeartbeats 3200000 in
theorem call_set_strs {l:Addr} {items:Array Value} {ts:List Str} {Q:Value→Shared→Prop}
  (hh:A.handled=none) (hl:s.heap.IsList l items) (hi:∀ (i:Nat) (v:Value),items[i]?=some v→∃ t,v=.str (ts.getD i ⟨#[]⟩) t) (hb:items.size+1 < scanBound)
  (h:∀ (h':Heap) (tk:Nat),SetS w h' s.heap.objs.size (firstS (fun i=>ts.getD i ⟨#[]⟩) items.size)→
   (∀ b o,b < s.heap.objs.size→s.heap.get? b=some o→h'.get? b=some o)→Q (.ref s.heap.objs.size) { s with heap:=h',toks:=tk }) :
  wpAny (model prog w) A (call (.type "set") [.ref l]) Q E s:=by
 obtain ⟨c,tl,hmro⟩:=PySem.F.called_set.mro
 have hmade:=PySem.F.called_set.made
 have hsub:=PySem.F.called_set.sub
 refine wpAny_call (codeAny_of_tree ?_)
 show wpAny _ _ (callAny (.type "set") _) _ _ _
 refine wpAny_pure ⟨Code.quiet_builtin _ (by decide +kernel),codeAny_builtin PySem.F.entry_type_call ?_⟩
 rw [Around.under_plain (weight_type_call_type "set" [.ref l] []) rfl]
 have h1:=PySem.F.called_set.notType
 have h2:=PySem.F.called_set.canCreate
 have hct:=PySem.F.typeCall_set_1 (.ref l)
 repeat (any_goals (first | assumption | wp_step))
 refine codeAny_mono (code_set_new (.ref l) (E:=E) (Q₁:=fun obj s₁=>obj=.ref s.heap.objs.size∧s₁ = { s with heap:=s.heap.push (newSetObj w) }) ⟨rfl,rfl⟩) fun r s₁ hr=>?_
 cases r with
 | error e=>exact hr
 | ok fl =>
  cases fl with
  | ret obj =>
   obtain ⟨rfl,rfl⟩:=hr
   have hS:(s.heap.push (newSetObj w)).get? s.heap.objs.size=some (newSetObj w):=Heap.get?_push_size _ rfl
   have hT:Shared.TypeIs { s with heap:=s.heap.push (newSetObj w) } (.ref s.heap.objs.size) "set":=⟨_,hS,rfl⟩
   have hli:=PySem.F.called_set.init.lookup
   have hbi:=PySem.F.called_set.init.bind (.ref s.heap.objs.size)
   repeat (any_goals (first | assumption | wp_step))
   refine codeAny_mono (codeAny_call_builtin (R:=wants (fun r s₂=>r=.none∧∃ h' tk,s₂ = { s with heap:=h',toks:=tk }∧SetS w h' s.heap.objs.size (firstS (fun i=>ts.getD i ⟨#[]⟩) items.size)∧
     (∀ b o,b < s.heap.objs.size→s.heap.get? b=some o→h'.get? b=some o)) E) PySem.F.called_set.init.plain PySem.F.entry_set_init (check_set_init_1 hT ?_)) fun r₂ s₂ hr₂=>?_
   ·obtain ⟨ol,hol,hcl,nl,hdl⟩:=hl
    obtain ⟨ocls,odict,odata,oslots⟩:=ol
    simp only at hcl hdl
    subst hcl;subst hdl
    have hol':(s.heap.push (newSetObj w)).get? l=some { cls:=.type "list",dict:=odict,data:=.seq items nl,slots:=oslots }:=Heap.get?_push_of_some _ hol
    have hsls:=PySem.F.sub_list_set
    have hslf:=PySem.F.sub_list_frozenset
    have hne:(Value.type "list" == Value.type "dict")=false:=by decide
    have hl1:(s.heap.push (newSetObj w)).IsList l items:=⟨_,hol',rfl,nl,rfl⟩
    unfold newSetObj at hol' hS hl1 hT ⊢
    unfold Builtin.«set.__init__» noKeywords Builtin.Frozenset.updateFrom
    generalize hPI:pyIter=PI
    wp_walk
    subst hPI
    refine wpAny_pyIter_list hl1 ?_
    refine wpAny_bind (wpAny_runValue ?_)
    have hlS:l < s.heap.objs.size:=Heap.lt_size hol
    have hh3:A.in1.in1.in1.handled=none:=by simp [hh]
    have hz:(s.heap.push { cls:=.type "set",dict:=none,data:=.set #[] 0 (.fresh 0 0 (!byText w)) }).objs.size=s.heap.objs.size+1:=Heap.size_push ..
    have hneI:l≠(s.heap.push { cls:=.type "set",dict:=none,data:=.set #[] 0 (.fresh 0 0 (!byText w)) }).objs.size:=by
     rw [hz];exact Nat.ne_of_lt (Nat.lt_succ_of_lt hlS)
    have hSf:s.heap.objs.size∉[(s.heap.push { cls:=.type "set",dict:=none,data:=.set #[] 0 (.fresh 0 0 (!byText w)) }).objs.size,l]:=by
     rw [hz];simp only [List.mem_cons,List.mem_singleton,List.not_mem_nil,or_false,not_or]
     exact ⟨Nat.ne_of_lt (Nat.lt_succ_self _),Nat.ne_of_gt hlS⟩
    refine set_update_S ((Walks.list hh3 _ l hneI items).toS) s.heap.objs.size hSf (fun i=>ts.getD i ⟨#[]⟩) hi hb (items.size - 0) 0 _ (by (clear hSf hneI hz hh3 hlS hl1 hne hslf hsls hol' hol hbi hli hT hS hct h2 h1 hsub hmade hmro h hb hi hh;lia)) (Nat.zero_le _)
     ⟨⟨_,Heap.get?_push_size _ rfl,rfl,rfl⟩,(hl1.push _)⟩ (newSet_S (Heap.get?_push_of_some _ hS)) fun s' hm hS'=>?_
    obtain ⟨h',g',d',tk',os'⟩:=s'
    have eg:g'=s.gens:=hm.gens
    have ed:d'=s.drawn:=hm.drawn
    have eo:os'=s.os:=hm.os
    subst eg;subst ed;subst eo
    show wpAny _ _ _ _ _ _
    refine wpAny_pure ?_
    show wpAny _ _ (ret Value.none) _ _ _
    refine wpAny_pure ⟨rfl,h',tk',rfl,hS',fun b o hb e=>?_⟩
    have hb1:b≠s.heap.objs.size:=Nat.ne_of_lt hb
    have hb2:b≠(s.heap.push { cls:=.type "set",dict:=none,data:=.set #[] 0 (.fresh 0 0 (!byText w)) }).objs.size:=by
     rw [hz];exact Nat.ne_of_lt (Nat.lt_succ_of_lt hb)
    exact hm.heap b o (by simp only [List.mem_cons,List.mem_singleton,List.not_mem_nil,or_false,not_or];exact ⟨hb1,hb2⟩) (Heap.get?_push_of_some _ (Heap.get?_push_of_some _ e))
   ·cases r₂ with
    | error e=>exact hr₂
    | ok fl₂ =>
     cases fl₂ with
     | ret r =>
      obtain ⟨rfl,h',tk,rfl,hS',hk'⟩:=hr₂
      repeat (any_goals (first | assumption | wp_step))
      exact h _ _ hS' hk'
     | _=>exact hr₂.elim
  | _=>exact hr.elim
end
section
variable {prog:Program} {w:World} {B:Shared} {φ φ':List Addr} {σ σ':List AObj} {s s':Shared} {A:Around} {X:XT} {Q:V→List AObj→Prop}
noncomputable def onceS (texts:List Str):List Str:=texts.foldl addS []
theorem firstS_once (texts:List Str):firstS (fun i=>texts.getD i ⟨#[]⟩) texts.length=onceS texts:=by
 unfold firstS onceS
 congr 1
 refine List.ext_getElem? fun i=>?_
 rw [List.getElem?_map]
 by_cases hi:i < texts.length
 ·rw [List.getElem?_range hi,Option.map_some,List.getD_eq_getElem?_getD,List.getElem?_eq_getElem hi];rfl
 ·rw [List.getElem?_eq_none (by simpa using hi),List.getElem?_eq_none (by simpa using hi)];rfl
theorem C_set_list {k:Nat} {texts:List Str} (hh:A.handled=none) (hσ:σ[k]?=some (.list (texts.map V.str))) (hn:texts.length+1 < scanBound) (q:Q (.ref σ.length) (σ++[.set (onceS texts)])):WC prog w B A (.type "set") [.ref k] σ Q X:=fun φ s vs G FR hv=>by
 obtain ⟨v,rfl,hx⟩:=hv.one
 obtain ⟨a,rfl,ha⟩:=hx.of_ref
 obtain ⟨a',ha',vs,n,ho,hvs⟩:=G.get hσ
 rw [ha] at ha';cases ha'
 have hlen:vs.size=texts.length:=by simpa using hvs.length
 refine call_set_strs (l:=a) (items:=vs) (ts:=texts) hh ⟨_,ho,rfl,n,rfl⟩ (fun i v hv=>?_) (by rw [hlen];exact hn) fun h' tk hS hk=>?_
 ·have hi:i < texts.length:=by rw [← hlen];exact (Array.getElem?_eq_some_iff.mp hv).1
  obtain ⟨u,h1,h2⟩:=hvs.get (i:=i) (x:=.str texts[i]) (by rw [List.getElem?_map,List.getElem?_eq_getElem hi];rfl)
  rw [Array.getElem?_toList,hv] at h1;cases h1
  obtain ⟨t,rfl⟩:=h2.of_str
  exact ⟨t,by rw [List.getD_eq_getElem?_getD,List.getElem?_eq_getElem hi];rfl⟩
 ·rw [hlen,firstS_once] at hS
  have hk':∀ b o,s.heap.get? b=some o→h'.get? b=some o:=fun b o e=>hk b o (Heap.lt_size e) e
  have t₂:Step [] φ s.heap (φ++[s.heap.objs.size]) h':=Step.alloc (s':={ s with heap:=h' }) (get?_size _) hk'
  refine ⟨_,_,t₂,G.alloc (s':={ s with heap:=h',toks:=tk }) (ob:=.set (onceS texts)) (get?_size _) hk' hS G.fresh G.sizeNe,.ref σ.length,?_,q⟩
  rw [Val,← G.len]
  exact ⟨_,rfl,by simp⟩
theorem C_sorted_set {k:Nat} {ss:List Str} (hh:A.handled=none) (hσ:σ[k]?=some (.set ss)) (hn:ss.length≤sortLine) (q:Q (.ref σ.length) (σ++[.list ((srt ss).map V.str)])):WC prog w B A (.builtin "sorted") [.ref k] σ Q X:=fun φ s vs G FR hv=>by
 obtain ⟨v,rfl,hx⟩:=hv.one
 obtain ⟨a,rfl,ha⟩:=hx.of_ref
 obtain ⟨a',ha',hS⟩:=G.get hσ
 rw [ha] at ha';cases ha'
 exact sorted_src (src_set (ss:=ss)) hh G hS hn rfl (fun vs hg=>hg) q
theorem onceS_mem (texts:List Str) (x:Str):x∈onceS texts↔x∈texts:=by
 have key:∀ (l acc:List Str),x∈l.foldl addS acc↔x∈acc∨x∈l:=by
  intro l
  induction l with
  | nil=>intro acc;simp
  | cons y r ih =>
   intro acc
   rw [List.foldl_cons,ih,List.mem_cons]
   unfold addS
   split
   ·rename_i hy
    constructor
    ·rintro (h | h)
     ·exact .inl h
     ·exact .inr (.inr h)
    ·rintro (h | rfl | h)
     ·exact .inl h
     ·exact .inl hy
     ·exact .inr h
   ·rw [List.mem_append,List.mem_singleton]
    constructor
    ·rintro ((h | h) | h)
     ·exact .inl h
     ·exact .inr (.inl h)
     ·exact .inr (.inr h)
    ·rintro (h | h | h)
     ·exact .inl (.inl h)
     ·exact .inl (.inr h)
     ·exact .inr h
 have:=key texts []
 simpa [onceS] using this
theorem onceS_nodup (texts:List Str):(onceS texts).Nodup:=by
 have key:∀ (l acc:List Str),acc.Nodup→(l.foldl addS acc).Nodup:=by
  intro l
  induction l with
  | nil=>intro acc h;exact h
  | cons y r ih =>
   intro acc h
   rw [List.foldl_cons]
   refine ih _ ?_
   unfold addS
   split
   ·exact h
   ·rename_i hy
    rw [List.nodup_append]
    exact ⟨h,by simp,fun a ha b hb=>by rw [List.mem_singleton.mp hb];exact fun e=>hy (e ▸ ha)⟩
 exact key texts [] List.nodup_nil
theorem onceS_len (texts:List Str):(onceS texts).length≤texts.length:=by rw [← firstS_once];exact firstS_len _ _
end
end Mine
namespace Mine
open PySem PySem.W PySem.Calls PyProof.Rows
section
variable {prog:Program} {w:World} {B:Shared} {mg mb:Str→Option Value} {φ φ':List Addr} {σ σ':List AObj} {s s':Shared} {env:Env} {ρ l:List (Str×V)} {A:Around} {X:XT} {Q:V→List AObj→Prop}
theorem preSum_list (l:List Int):∀ n,n≤l.length→preSum (fun i=>l.getD i 0) n=(l.take n).sum
 | 0,_=>rfl
 | n+1,h=>by
  rw [preSum,preSum_list l n (by (exact Nat.le_of_lt ‹_›)),List.take_add_one,List.sum_append,List.getElem?_eq_getElem (by (assumption)),List.getD_eq_getElem?_getD,List.getElem?_eq_getElem (by (assumption))]
  simp
theorem C_sum {k:Nat} {ns:List Int} (hh:A.handled=none) (hσ:σ[k]?=some (.list (ns.map V.int))) (q:Q (.int ns.sum) σ):WC prog w B A (.builtin "sum") [.ref k] σ Q X:=fun φ s vs G FR hv=>by
 obtain ⟨v,rfl,hx⟩:=hv.one
 obtain ⟨a,rfl,ha⟩:=hx.of_ref
 obtain ⟨a',ha',vs,n,ho,hvs⟩:=G.get hσ
 rw [ha] at ha';cases ha'
 have hL:s.heap.IsList a vs:=⟨_,ho,rfl,n,rfl⟩
 have hal:a≠s.heap.objs.size:=fun e=>by rw [e,get?_size] at ho;cases ho
 have hlt:a < s.heap.objs.size:=Heap.lt_size ho
 have hsz:vs.size=ns.length:=by simpa using hvs.length
 refine call_sum_walkAnyS (wpAny_pyIter_list hL ?_)
 refine ⟨s.heap.objs.size,_,_,_,_,_,_,fun i=>ns.getD i 0,rfl,(Walks.list (A:=A.in1) (by simp [hh]) s.heap.objs.size a hal vs).toS,⟨⟨_,Heap.get?_push_size _ rfl,rfl,rfl⟩,hL.push _⟩,fun b hb=>?_,fun i v hP=>?_,fun s' t' hm=>?_⟩
 ·show b < (s.heap.push _).objs.size
  rw [Heap.size_push]
  simp only [List.mem_cons,List.not_mem_nil,or_false] at hb
  rcases hb with rfl | rfl
  ·exact Nat.lt_succ_self _
  ·exact Nat.lt_succ_of_lt hlt
 ·have hi:i < ns.length:=by rw [← hsz];exact (Array.getElem?_eq_some_iff.mp hP).1
  obtain ⟨u,h1,h2⟩:=hvs.get (i:=i) (x:=.int (ns.getD i 0)) (by rw [List.getElem?_map,List.getD_eq_getElem?_getD,List.getElem?_eq_getElem hi];rfl)
  rw [Array.getElem?_toList,hP] at h1
  cases h1
  exact h2.of_int
 ·have hk:∀ b o,s.heap.get? b=some o→s'.heap.get? b=some o:=fun b o e=>hm.heap b o (by simp only [List.mem_singleton];exact Nat.ne_of_lt (Heap.lt_size e)) (Heap.get?_push_of_some _ e)
  refine ⟨φ,σ,.of_keeps hk,G.keeps hk hm.gens hm.os,.int ns.sum,?_,q⟩
  rw [hsz,preSum_list ns _ (Nat.le_refl _),List.take_length]
  exact .int_ _ _
theorem E_compd {elt iter:Expr} {x:Str} {px:Pos} {scope:Scope} {pos:Pos} {k:Nat} {es:List (Key×V)} {e:Option Nat} (l:List (Str×V)) (y:Nat→V) (hl:l.all (fun p=>(freeOf scope).contains p.1)=true) (hs:Sub l ρ) (hb:compB env scope x=true) (hc:env.cells.Pairwise fun x y=>x.2≠y.2)
  (hh:A.handled=none) (hσ:σ[k]?=some (.dict es e)) (hn:es.length≤sizeLine)
  (hi:∀ ep,WE prog w B A env iter ρ (pin σ k es ep) (fun v σ'=>v=.ref k∧σ'=pin σ k es ep) X)
  (helt:∀ ep D i junk,i < es.length→WE prog w B A { compEnvC scope (clOf scope env) 0 env with locals:=D } elt ((x,keyAt es i) :: l) (pin σ k es ep++junk) (fun v σ₃=>v=y i∧σ₃=pin σ k es ep++junk) (fun _ _ _ _=>False))
  (q:Q (.ref σ.length) (σ++[.list ((List.range es.length).map y)]))
  (hs':∀ v,foldedSetIterable iter env v=pure v:=by intro _;with_unfolding_all rfl) :
  WE prog w B A env (.ListComp elt [⟨.Name x px,iter,[],0⟩] scope pos) ρ σ Q X:=fun φ s G L=>by
 obtain ⟨ep,hep,G',_⟩:=G.pin hσ
 have hkl:k < σ.length:=(List.getElem?_eq_some_iff.mp hσ).1
 have hpl:(pin σ k es ep).length=σ.length:=by simp [pin]
 have main:WE prog w B A env (.ListComp elt [⟨.Name x px,iter,[],0⟩] scope pos) ρ (pin σ k es ep) (fun v σ'=>σ'[k]?=some (.dict es (some ep))∧Q v (σ'.set k (.dict es e))) X:=by
  refine E_compl l hl hs hb hc ((hi ep).mono fun v σ' hv=>?_) hs'
  obtain ⟨rfl,rfl⟩:=hv
  refine ⟨_,_,_,_,y,It_dict (e:=none) hh (pin_at hσ),hn,fun i=>up_at (pin_at hσ),fun D i hi'=>helt ep D i _ hi',?_,?_⟩
  ·exact up_at (pin_at hσ)
  ·rw [List.set_append_left _ _ (by rw [hpl];exact hkl),pin_set hσ,hpl]
   exact q
 refine wpAny_mono (main φ s G' L) (fun v s₁ hx=>?_) fun _ _ x=>x
 obtain ⟨φ₁,σ₁,t₁,G₁,u,hv,q1,q2⟩:=hx
 exact ⟨φ₁,σ₁.set k (.dict es e),t₁,G₁.unpin q1 hep,u,hv,q2⟩
end
end Mine
namespace Mine
open PySem PySem.W PySem.Calls PyProof.Rows
noncomputable def clsB (K:Frag) (C:Addr) (attrs:List Str) (meths:List (Str×Addr)):Bool :=
 makesIn K C && plainGet K C "" && (findIn K (.ref C) "__setattr__" == some (some (.builtin "object.__setattr__"))) && plainOver K C && hasDictIn K C && keepIn K (.ref C) &&
 attrs.all (fun x=>findIn K (.ref C) x == some none) && meths.all (fun p=>findIn K (.ref C) p.1 == some (some (.ref p.2)) && isFn K (.ref p.2))
noncomputable def Cls (B:Shared) (C:Addr) (attrs:List Str) (meths:List (Str×Addr)):Prop:=∃ K:Frag,K.In B.heap∧clsB K C attrs meths=true
structure ClsK (K:Frag) (C:Addr) (attrs:List Str) (meths:List (Str×Addr)):Prop where
 makes:makesIn K C=true
 get:findIn K (.ref C) "__getattribute__" = some (some (.builtin "object.__getattribute__"))
 hook:findIn K (.ref C) "__getattr__" = some none
 set:findIn K (.ref C) "__setattr__" = some (some (.builtin "object.__setattr__"))
 over:plainOver K C=true
 dict:hasDictIn K C=true
 keep:keepIn K (.ref C)=true
 attr:∀ x∈attrs,findIn K (.ref C) x=some none
 meth:∀ p∈meths,findIn K (.ref C) p.1=some (some (.ref p.2))∧isFn K (.ref p.2)=true
theorem ClsK.of {K:Frag} {C:Addr} {attrs:List Str} {meths:List (Str×Addr)} (h:clsB K C attrs meths=true):ClsK K C attrs meths:=by
 unfold clsB at h
 simp only [Bool.and_eq_true,beq_iff_eq,List.all_eq_true] at h
 obtain ⟨⟨⟨⟨⟨⟨⟨h1,h2⟩,h3⟩,h4⟩,h5⟩,h6⟩,h7⟩,h8⟩:=h
 exact ⟨h1,(plainGet_of h2).1,(plainGet_of h2).2,h3,h4,h5,h6,h7,fun p hp=>⟨(h8 p hp).1,(h8 p hp).2⟩⟩
theorem lookIn_ns {es:Array DictEntry} {n:Nat} {c:Value} {d:Option Addr} {sl:Array (Option Value)} (hk:StrKeys es) (name:Str):lookIn name ⟨c,d,.dict es n,sl⟩=some (nsFind es name):=by
 unfold lookIn nsFind findBy
 dsimp only
 rw [← Array.find?_toList]
 cases h:es.toList.find? (fun e=>e.key.isStr name) with
 | some e=>rfl
 | none =>
  have:es.toList.any (fun e=>e.refKey)=false:=by
   rw [List.any_eq_false]
   intro e he
   obtain ⟨m,t,hm⟩:=hk e (Array.mem_toList_iff.mp he)
   simp [DictEntry.refKey,hm]
  rw [this]
  rfl
noncomputable def VH (v:V):Prop:=∀ u,v=.raw u→handedIn u=true
theorem VH.str {x:Str}:VH (.str x):=fun _ e=>nomatch e
theorem VH.ref {k:Nat}:VH (.ref k):=fun _ e=>nomatch e
theorem VH.int {i:Int}:VH (.int i):=fun _ e=>nomatch e
theorem VH.handed {φ:List Addr} {h:Heap}:∀ {v:V} {val:Value},VH v→Val φ h v val→handedIn val=true
 | .none,_,_,e=>by rw [Val] at e;subst e;rfl
 | .bool b,_,_,e=>by rw [Val] at e;subst e;rfl
 | .int i,_,_,e=>by obtain ⟨t,rfl⟩:=e.of_int;rfl
 | .str x,_,_,e=>by obtain ⟨t,rfl⟩:=e.of_str;rfl
 | .tup xs,_,_,e=>by obtain ⟨a,vs,rfl,_⟩:=e.of_tup;rfl
 | .ref k,_,_,e=>by obtain ⟨a,rfl,_⟩:=e.of_ref;rfl
 | .raw u,_,h,e=>by have:=e.of_raw;subst this;exact h _ rfl
 | .rng a b c,_,_,e=>by rw [Val] at e;obtain ⟨r,t,u,k,rfl,_⟩:=e;rfl
noncomputable def nsPut:List (Str×V)→Str→V→List (Str×V)
 | [],x,v=>[(x,v)]
 | (y,u) :: r,x,v=>if x=y then (y,v) :: r else (y,u) :: nsPut r x v
theorem nsPut_lookup (x y:Str) (v:V):∀ as:List (Str×V),(nsPut as x v).lookup y=if y=x then some v else as.lookup y
 | []=>by
  unfold nsPut
  by_cases h:y=x
  ·subst h;rw [if_pos rfl,List.lookup_cons_self]
  ·rw [if_neg h,lookup_cons_ne h]
 | (z,u) :: r=>by
  unfold nsPut
  by_cases hz:x=z
  ·subst hz
   rw [if_pos rfl]
   by_cases h:y=x
   ·subst h;rw [if_pos rfl,List.lookup_cons_self]
   ·rw [if_neg h,lookup_cons_ne h,lookup_cons_ne h]
  ·rw [if_neg hz]
   by_cases h:y=x
   ·subst h;rw [if_pos rfl,lookup_cons_ne hz,nsPut_lookup y y v r,if_pos rfl]
   ·by_cases h2:y=z
    ·subst h2;rw [if_neg h,List.lookup_cons_self,List.lookup_cons_self]
    ·rw [if_neg h,lookup_cons_ne h2,lookup_cons_ne h2,nsPut_lookup x y v r,if_neg h]
theorem nsPut_len (x:Str) (v:V):∀ as:List (Str×V),(nsPut as x v).length=if (as.lookup x).isSome then as.length else as.length+1
 | []=>by simp [nsPut]
 | (z,u) :: r=>by
  unfold nsPut
  by_cases hz:x=z
  ·subst hz;simp
  ·rw [if_neg hz,List.lookup_cons,List.length_cons,nsPut_len x v r]
   have:(x == z)=false:=by simpa using hz
   rw [this]
   split <;> simp
noncomputable def PutQ (as:List (Str×V)) (x:Str) (v:V) (P:List (Str×V)→Prop):Prop:=P (nsPut as x v)
theorem PQ_nil {x:Str} {v:V} {P:List (Str×V)→Prop} (p:P [(x,v)]):PutQ [] x v P:=p
theorem PQ_here {x:Str} {u v:V} {r:List (Str×V)} {P:List (Str×V)→Prop} (p:P ((x,v) :: r)):PutQ ((x,u) :: r) x v P:=by unfold PutQ nsPut;rw [if_pos rfl];exact p
theorem PQ_there {x y:Str} {u v:V} {r:List (Str×V)} {P:List (Str×V)→Prop} (h:(x == y)=false) (p:PutQ r x v (fun r'=>P ((y,u) :: r'))):PutQ ((y,u) :: r) x v P:=by
 unfold PutQ nsPut;rw [if_neg (by simpa using h)];exact p
section
variable {prog:Program} {w:World} {B:Shared} {mg mb:Str→Option Value} {φ φ':List Addr} {σ σ':List AObj} {s s':Shared} {env:Env} {ρ l:List (Str×V)} {A:Around} {X:XT} {Q:V→List AObj→Prop}
theorem St.inst {k kn:Nat} {C:Addr} {as:List (Str×V)} {a:Addr} (G:St prog w B φ σ s) (h1:σ[k]?=some (.inst C kn)) (h2:σ[kn]?=some (.ns as)) (ha:φ[k]?=some a) :
  ∃ d es n,φ[kn]?=some d∧s.heap.get? a=some ⟨.ref C,some d,.plain,#[]⟩∧s.heap.get? d=some ⟨.type "dict",none,.dict es n,#[]⟩∧StrKeys es∧es.size≤as.length∧
   (∀ x,match as.lookup x with | some v=>∃ val,nsFind es x=some val∧Val φ s.heap v val | none=>nsFind es x=none)∧
   InstAt s.heap a ⟨.ref C,some d,.plain,#[]⟩ C (some ⟨.type "dict",none,.dict es n,#[]⟩):=by
 obtain ⟨a',ha',d,ho,hd⟩:=G.get h1
 rw [ha] at ha';cases ha'
 obtain ⟨d',hd',es,n,hod,hk,hsz,hl⟩:=G.get h2
 rw [hd] at hd';cases hd'
 exact ⟨d,es,n,hd,ho,hod,hk,hsz,hl,ho,rfl,rfl,hod⟩
noncomputable def WA (prog:Program) (w:World) (B:Shared) (A:Around) (x:V) (name:Str) (σ:List AObj) (Q:V→List AObj→Prop) (X:XT):Prop :=
 ∀ φ s v,St prog w B φ σ s→Val φ s.heap x v→W prog w B A (getAttr v name true) φ s (vQ Q) X
theorem E_attr {o:Expr} {name:Str} {pos:Pos} (h:WE prog w B A env o ρ σ (fun x σ₁=>WA prog w B A x name σ₁ Q X) X)
  (he:eval (.Attribute o name pos) env=(do
   let v ← eval o env
   standAt pos.atName
   let r ← holding [v] (getAttr v name true)
   letTemporaryGo o v r
   pure r):=by with_unfolding_all rfl):WE prog w B A env (.Attribute o name pos) ρ σ Q X:=fun φ s G L =>
 Attribute_any_ ((h φ s G L).useV (.refl ..) fun v s₁ φ₁ σ₁ t₁ _ G₁ x hx h₁=>(h₁ φ₁ s₁ v G₁ hx).last t₁) he
theorem A_inst {k kn:Nat} {C:Addr} {as:List (Str×V)} {name:Str} {attrs:List Str} {meths:List (Str×Addr)} (c:Cls B C attrs meths) (h1:σ[k]?=some (.inst C kn)) (h2:σ[kn]?=some (.ns as)) (hn:attrs.contains name=true)
  (q:LookQ as name (fun v=>VH v∧Q v σ) False):WA prog w B A (.ref k) name σ Q X:=fun φ s v G hv=>by
 obtain ⟨a,rfl,ha⟩:=hv.of_ref
 obtain ⟨K,KX,c⟩:=c
 have c:=ClsK.of c
 obtain ⟨d,es,n,hd,ho,hod,hk,hsz,hl,I⟩:=G.inst h1 h2 ha
 rcases q with ⟨u,hu,vh,q⟩ | q
 ·have hx:=hl name
  rw [hu] at hx
  obtain ⟨val,hf,hval⟩:=hx
  refine get_value (KX.keeps G.base) I c.get (findObj_own c.dict (c.attr name (by simpa using hn)) rfl (by rw [lookIn_ns hk,hf])) (vh.handed hval) (Post.tok G ⟨u,hval,q⟩)
 ·exact q.elim
noncomputable def WSA (prog:Program) (w:World) (B:Shared) (A:Around) (x:V) (name:Str) (z:V) (σ:List AObj) (Q:List AObj→Prop) (X:XT):Prop :=
 ∀ φ s v u,St prog w B φ σ s→Val φ s.heap x v→Val φ s.heap z u→W prog w B A (setAttr v name u) φ s (bQ fun _ σ'=>Q σ') X
theorem X_seta {o value:Expr} {name:Str} {p pos:Pos} {rest:List Stmt} {Q:Fl→List (Str×V)→List AObj→Prop}
  (h:WE prog w B A env value ρ σ (fun z σ₁=>WE prog w B A env o ρ σ₁ (fun x σ₂=>WSA prog w B A x name z σ₂ (fun σ₃=>WX prog w B A env rest ρ σ₃ Q X) X) X) X)
  (hs:swapsWith value (some (.Attribute o name p)) pos.line env=pure false:=by with_unfolding_all rfl):WX prog w B A env (.Assign [.Attribute o name p] value pos :: rest) ρ σ Q X:=by
 refine X_cons fun φ s G L=>?_
 refine plainObj_wpAny_Assign_Attribute ?_ hs
 refine h.then G L fun vz s₁ φ₁ σ₁ z t₁ G₁ L₁ hz h₁=>?_
 refine wpAny_mono (h₁ φ₁ s₁ G₁ L₁) (fun vx s₂ ⟨φ₂,σ₂,t₂,G₂,x,hx,h₂⟩=>?_) fun e s' ⟨φ',σ',t',G',x⟩=>⟨φ',σ',(t₁.trans0 t').nilD,G',x⟩
 refine wpAny_mono (h₂ φ₂ s₂ vx vz G₂ hx (hz.step G₁ t₂)) (fun _ s₃ ⟨φ₃,σ₃,t₃,G₃,q⟩=>?_) fun e s' ⟨φ',σ',t',G',x⟩=>⟨φ',σ',(t₁.trans0 (t₂.trans0 t')).nilD,G',x⟩
 exact ⟨φ₃,σ₃,(t₁.trans0 (t₂.trans0 t₃)).nilD,G₃,.next,ρ,rfl,(L₁.step G₁ t₂).step G₂ t₃,q⟩
theorem SA_inst {k kn:Nat} {C:Addr} {as:List (Str×V)} {name:Str} {z:V} {attrs:List Str} {meths:List (Str×Addr)} {Q:List AObj→Prop} (c:Cls B C attrs meths) (h1:σ[k]?=some (.inst C kn)) (h2:σ[kn]?=some (.ns as)) (hn:attrs.contains name=true) (hlen:as.length≤900)
  (q:PutQ as name z (fun as'=>Q (σ.set kn (.ns as')))):WSA prog w B A (.ref k) name z σ Q X:=fun φ s v u G hv hu=>by
 obtain ⟨a,rfl,ha⟩:=hv.of_ref
 obtain ⟨K,KX,c⟩:=c
 have c:=ClsK.of c
 obtain ⟨d,es,n,hd,ho,hod,hk,hsz,hl,I⟩:=G.inst h1 h2 ha
 have KX':=KX.keeps G.base
 have hat:=c.attr name (by simpa using hn)
 obtain ⟨cd,hc,hdict⟩:=any_some c.dict
 refine set_plain KX' I c.set (osa_open (s:={ s with toks:=s.toks+1 }) KX' I c.over (r:=none) (by unfold takerIn;rw [hat];rfl) fun b=>?_)
 refine wpAny_bind (wpAny_pure (wpAny_bind (wpAny_bind (wpAny_loadPart ho (wpAny_bind (looks_clsIn (M:=model prog w) KX' hc _ _ _ _ (fun _ _ e=>e) ?_))))))
 rw [hdict]
 refine wpAny_pure (a:=some d) (wpAny_bind (wpAny_pure (wpAny_bind ?_)))
 unfold nsSet
 refine wpAny_bind (wpAny_bind (wpAny_askSetting (wpAny_pure (wpAny_bind (wpAny_mkText (wpAny_bind (wpAny_loadPart hod ?_)))))))
 dsimp only
 have hany:es.any (·.refKey)=false:=by
  rw [Array.any_eq_false'];intro e he;obtain ⟨n,t,h⟩:=hk e he;simp [DictEntry.refKey,h]
 rw [aRefKeyMayBeTheName_at,hany,Bool.and_false]
 refine wpAny_updatePart hod ?_
 have key:∃ es' n',Obj.putName name (PyData.keyHash w.params name) (.str name (s.toks+1)) u ⟨.type "dict",none,.dict es n,#[]⟩=⟨.type "dict",none,.dict es' n',#[]⟩∧StrKeys es'∧es'.size≤(nsPut as name z).length∧es'.size≤901∧∀ x,nsFind es' x=if x=name then some u else nsFind es x:=by
  have hx:=hl name
  cases hi:es.findIdx? (·.key.isStr name) with
  | some i =>
   refine ⟨_,_,by simp only [Obj.putName_eq,Obj.putNameByArray,hi];rfl,hk.modify _ _,?_,?_,fun x=>findBy_modify (fun n v=>v.isStr n) Value.isStr_inj es name x u i hi⟩
   ·rw [Array.size_modify,nsPut_len];split <;> omega
   ·rw [Array.size_modify];(exact qCz hlen hsz)
  | none =>
   refine ⟨_,_,by simp only [Obj.putName_eq,Obj.putNameByArray,hi];rfl,hk.push _ _ _ _,?_,?_,fun x=>findBy_push (fun n v=>v.isStr n) es name x _ _ u (fun y=>?_) hi⟩
   ·rw [Array.size_push,nsPut_len]
    cases hlk:as.lookup name with
    | some v =>
     rw [hlk] at hx
     obtain ⟨val,hf,_⟩:=hx
     have:nsFind es name=none:=by
      unfold nsFind findBy
      have hf':es.find? (fun e=>e.key.isStr name)=none:=by
       rw [Array.find?_eq_none]
       intro e he
       have:=Array.findIdx?_eq_none_iff.mp hi e he
       simpa using this
      rw [hf'];rfl
     rw [this] at hf;cases hf
    | none=>simp;omega
   ·rw [Array.size_push];(exact qFI hlen hsz)
   ·show (name == y)=decide (y=name)
    by_cases h:y=name
    ·subst h;simp
    ·have:¬ name=y:=fun e=>h e.symm
     simp [h,this]
 obtain ⟨es',n',e1,e2,e3,e4,e5⟩:=key
 have hD:=Heap.get?_update_self (Obj.putName name (PyData.keyHash w.params name) (.str name (s.toks+1)) u) hod (by rw [e1];rfl)
 rw [e1] at hD
 refine wpAny_bind (wpAny_lookBehind hD (pastItsLine_dict (by rw [sizeLine_eq];(exact Nat.le_trans ‹_› (by decide)))) ?_)
 refine wpAny_pure ?_
 have hsb:Heap.SameBut d s.heap (s.heap.update d (Obj.putName name (PyData.keyHash w.params name) (.str name (s.toks+1)) u)):=Heap.SameBut.update ..
 have hns:∀ o,s.heap.get? d=some o→¬ Still o:=fun o e=>by rw [hod] at e;cases e;exact notStill_dict rfl
 refine ⟨φ,σ.set kn (.ns (nsPut as name z)),Step.update hsb (List.mem_of_getElem? hd),G.update (s':={ s with heap:=_,toks:=s.toks+1+1 }) hd hsb ⟨es',n',hD,e2,e3,fun x=>?_⟩,q⟩
 have hm:∀ a o,s.heap.get? a=some o→Still o→(s.heap.update d (Obj.putName name (PyData.keyHash w.params name) (.str name (s.toks+1)) u)).get? a=some o:=fun a o e hst=>hsb.extBut a o (fun h=>hns o (h ▸ e) hst) e
 rw [nsPut_lookup]
 by_cases hxn:x=name
 ·rw [if_pos hxn]
  exact ⟨u,by rw [e5,if_pos hxn],Val.mono (List.prefix_refl _) hm z hu⟩
 ·rw [if_neg hxn,e5,if_neg hxn]
  have hx:=hl x
  cases hlk:as.lookup x with
  | some v =>
   rw [hlk] at hx
   obtain ⟨val,hf,hval⟩:=hx
   exact ⟨val,hf,Val.mono (List.prefix_refl _) hm v hval⟩
  | none=>rw [hlk] at hx;exact hx
noncomputable def GMv (prog:Program) (w:World) (B:Shared) (A:Around) (x:V) (name:Str) (σ:List AObj) (f:Value):Prop :=
 ∀ φ s v (pl:Sem Bool) (R:Value×List Value→Shared→Prop) (E:Value→Shared→Prop),St prog w B φ σ s→Val φ s.heap x v→R (f,[v]) s→wpAny (model prog w) A (getMethod v name pl) R E s
theorem GM_inst {k kn:Nat} {C f:Addr} {as:List (Str×V)} {name:Str} {attrs:List Str} {meths:List (Str×Addr)} (c:Cls B C attrs meths) (h1:σ[k]?=some (.inst C kn)) (h2:σ[kn]?=some (.ns as)) (hf:meths.lookup name=some f) (hn:as.lookup name=none) :
  GMv prog w B A (.ref k) name σ (.ref f):=fun φ s v pl R E G hv h=>by
 obtain ⟨a,rfl,ha⟩:=hv.of_ref
 obtain ⟨K,KX,c⟩:=c
 have c:=ClsK.of c
 obtain ⟨d,es,n,hd,ho,hod,hk,hsz,hl,I⟩:=G.inst h1 h2 ha
 obtain ⟨hm1,hm2⟩:=c.meth (name,f) (mem_of_lookup hf)
 refine method_fn (KX.keeps G.base) I c.get c.hook hm1 (beq_iff_eq.mp hm2) ?_ h
 show (lookIn name _).map _=_
 have hx:=hl name
 rw [hn] at hx
 rw [lookIn_ns hk,hx];rfl
theorem E_mcallv {o:Expr} {name:Str} {apos pos:Pos} {es:List Expr} {pl:Sem Bool}
  (h:WE prog w B A env o ρ σ (fun x σ₁=>∃ f,GMv prog w B A x name σ₁ f∧Keep B f∧WEs prog w B A env es ρ σ₁ (fun xs σ₂=>WC prog w B A f (x :: xs) σ₂ Q X) X) X)
  (he:eval (.Call (.Attribute o name apos) es [] pos) env=(do
   let ov ← eval o env
   standAt apos.atName
   let (f,first) ← holding [ov] (getMethod ov name pl)
   callWith pos f first (backTo pos (starEach es env)) []):=by with_unfolding_all rfl)
  (hp:∀ pos,(backTo pos (starEach es env)).any (·.1)=false:=by intro _;with_unfolding_all rfl) :
  WE prog w B A env (.Call (.Attribute o name apos) es [] pos) ρ σ Q X:=fun φ s G L=>by
 refine MethodCall_ ((h φ s G L).useV (.refl ..) fun v s₁ φ₁ σ₁ t₁ _ G₁ x hx ⟨f,gm,hk,h₁⟩=>?_) he
 refine gm φ₁ s₁ v pl _ _ G₁ hx ?_
 refine callWith_of (P:=fun h=>∀ b o,B.heap.get? b=some o→h.get? b=some o) (by rw [hp pos];rfl) (fun h hb=>hk _ h hb) ?_
 have main:=(h₁ pos φ₁ s₁ G₁ (L.step G t₁)).use t₁ (R:=fun vs s₂=>(∀ b o,B.heap.get? b=some o→s₂.heap.get? b=some o)∧wpAny (model prog w) A (call f ([v]++vs)) (Post prog w B [] φ s (vQ Q)) (Post prog w B [] φ s X) s₂) fun vs s₂ φ₂ σ₂ t₂ t G₂ ⟨xs,hxs,h₂⟩=>⟨G₂.base,(h₂ φ₂ s₂ (v :: vs) G₂ (L.frs.step t) (.cons (hx.step G₁ t₂) hxs)).last t⟩
 exact evalArgs_any (hp pos) main
theorem wt_ref (C:Addr) (rest:List Value) (kw:List (Str×Value)):(Code.builtin "type.__call__" ⟨.ref C :: rest,kw⟩).weight=1:=by kernel_rfl
theorem wu_ref (C:Addr) (rest:List Value) (kw:List (Str×Value)):(Code.builtin "type.__call__" ⟨.ref C :: rest,kw⟩).cUnits≤3:=by
 with_unfolding_all exact Nat.le_of_ble_eq_true rfl
theorem AOk.make {n:Nat} {C:Addr} {rest:List Value} {kw:List (Str×Value)} (h:AOk (n+1) A):AOk n (A.under (.builtin "type.__call__" ⟨.ref C :: rest,kw⟩)):=by
 have e1:=wt_ref C rest kw
 have e2:=wu_ref C rest kw
 have h1:=h.depth
 have h2:=h.units
 refine ⟨h.handled,?_,?_⟩
 ·show A.depth+(Code.builtin "type.__call__" ⟨.ref C :: rest,kw⟩).weight+n≤900
  (exact qCN e1 h1)
 ·show A.units+(Code.builtin "type.__call__" ⟨.ref C :: rest,kw⟩).cUnits+10 * n≤9000
  (exact qGy e2 h2)
noncomputable def WK (prog:Program) (w:World) (B:Shared) (A:Around) (f:Value) (xs:List V) (σ:List AObj) (Q:V→List AObj→Prop) (X:XT):Prop :=
 ∀ φ s vs,St prog w B φ σ s→Frs A B φ s.heap→Vals φ s.heap xs vs→codeAny (model prog w) A (.call f ⟨vs,[]⟩) (fun r s'=>match r with | .ok (.ret v)=>Post prog w B [] φ s (vQ Q) v s' | .ok _=>False | .error e=>Post prog w B [] φ s X e s') s
theorem WK.wc {f:Value} {xs:List V} (h:WK prog w B A f xs σ Q X):WC prog w B A f xs σ Q X:=fun φ s vs G FR hv=>wpAny_call (h φ s vs G FR hv)
theorem Post.clean {a:Value} (G:St prog w B φ σ s) (h:Post prog w B [] φ s (vQ (Clean σ Q)) a s'):Post prog w B [] φ s (vQ Q) a s':=by
 obtain ⟨φ',σ',t,G',x,hx,c⟩:=h
 cases c with
 | all q=>exact ⟨φ',σ',t,G',x,hx,q⟩
 | none hl q =>
  exact ⟨φ,σ,⟨List.prefix_refl _,fun _ h=>.inl h,t.keep⟩,G'.trunc t.pre G.len G.closed,x,Val.cut t.pre x (G.len ▸ hl) hx,q⟩
 | @one j1 j2 ob k hk hl q =>
  obtain ⟨c,hc,hcφ,G''⟩:=G'.pick t.pre G.len G.closed hl
  have hcm:c∈φ':=List.mem_of_getElem? hc
  refine ⟨φ++[c],σ++[ob],⟨List.prefix_append _ _,fun a ha=>(List.mem_append.mp ha).imp id fun h=>?_,t.keep⟩,G'',.ref σ.length,?_,q⟩
  ·obtain rfl:=List.mem_singleton.mp h
   exact (t.fresh a hcm).resolve_left hcφ
  ·rw [Val] at hx ⊢
   obtain ⟨a,rfl,ha⟩:=hx
   rw [hk,hc] at ha;cases ha
   exact ⟨c,rfl,by rw [← G.len];simp⟩
theorem WK.clean {f:Value} {xs:List V} (h:WK prog w B A f xs σ (Clean σ Q) X):WK prog w B A f xs σ Q X:=fun φ s vs G FR hv =>
 codeAny_mono (h φ s vs G FR hv) fun r s' hr=>by
  match r,hr with
  | .ok (.ret v),hr=>exact Post.clean G hr
  | .error e,hr=>exact hr
noncomputable def CM (prog:Program) (w:World) (B:Shared) (f:Addr) (n:Nat) (P:List V→List AObj→(V→List AObj→Prop)→XT→Prop):Prop :=
 Keep B (.ref f)∧∀ A xs σ Q X,AOk n A→P xs σ Q X→WK prog w B A (.ref f) xs σ Q X
noncomputable def HasM (B:Shared) (f:Addr) (d:DefRec):Prop :=
 ∃ o pm code doc q,B.heap.get? f=some o∧o.data=.func { docDef d.name d.params d.body d.scope pm code doc with qualname:=q }∧B.heap.CodeRec code q
structure GoodM (d:DefRec) (names:List Str):Prop where
 bind:∀ (q:Str) (pm code doc:Value) (vals:List Value),vals.length=names.length→bindArgs { docDef d.name d.params d.body d.scope pm code doc with qualname:=q } ⟨vals,[]⟩=pure (names.zip vals)
 kinds:∀ n∈names,d.scope.names.lookup n=some .local∨d.scope.names.lookup n=some .cell
 nodup:names.Nodup
 cnodup:(d.scope.names.map (·.1)).Nodup
 co:d.scope.isCoroutine=false
 gen:d.scope.isGenerator=false
 kind:d.scope.kind=.function
theorem CM_of {f:Addr} {d:DefRec} {names:List Str} {n:Nat} {P:List V→List AObj→(V→List AObj→Prop)→XT→Prop} (gl:Gl B mg mb) (H:HasM B f d) (g:GoodM d names)
  (h:∀ A pm code doc q L a xs σ Q X,AOk n A→P xs σ Q X→xs.length=names.length∧WX prog w B A (callEnvC { docDef d.name d.params d.body d.scope pm code doc with qualname:=q } L a) d.body (names.zip xs) σ (retQ σ Q) (fun _ _ _ _=>False)) :
  CM prog w B f (n+1) P:=by
 obtain ⟨o,pm,code,doc,q,h2,h3,h4⟩:=H
 have F:Fn B f names { docDef d.name d.params d.body d.scope pm code doc with qualname:=q } d.body:=⟨⟨o,h2,h3⟩,gl.lim,h4,rfl,rfl,rfl,rfl,g.bind q pm code doc,g.kinds,g.nodup,g.cnodup,g.co,g.gen,g.kind⟩
 refine ⟨Keep.fn F,fun A xs σ Q X hA hP=>WK.clean (C_fn_code F ?_ hA.room fun L=>?_)⟩
 ·exact (h A pm code doc q 0 f xs σ Q X (hA.le (Nat.le_succ n)) hP).1
 ·exact (h _ pm code doc q L f xs σ Q X hA.deeper hP).2
theorem C_cm {f:Addr} {n:Nat} {xs:List V} {P:List V→List AObj→(V→List AObj→Prop)→XT→Prop} (C:CM prog w B f n P) (hA:AOk n A) (h:P xs σ Q X):WC prog w B A (.ref f) xs σ Q X:=(C.2 A xs σ Q X hA h).wc
theorem Frs.under {h:Heap} {id:String} {args:Args} (f:Frs A B φ h):Frs (A.under (.builtin id args)) B φ h:=by
 obtain ⟨l,hl,hf⟩:=f
 exact ⟨l,hl,hf⟩
theorem CF_make {x:Str} {C f:Addr} {attrs:List Str} {meths:List (Str×Addr)} {n:Nat} {P:List V→List AObj→(V→List AObj→Prop)→XT→Prop} (gl:Gl B mg mb) (c:Cls B C attrs meths) (hx:mg x=some (.ref C)) (hf:meths.lookup ("__init__":Str)=some f) (I:CM prog w B f n P) :
  CF prog w B mg x (n+1) (fun xs σ Q X=>P (.ref (σ.length+1) :: xs) (σ++[.ns []]++[.inst C σ.length]) (fun v σ'=>v=.none∧Q (.ref (σ.length+1)) σ') X):=by
 obtain ⟨K,KX,c⟩:=c
 have c:=ClsK.of c
 refine ⟨gl.g,.ref C,hx,fun M h hk=>?_,fun A xs σ Q X hA hP=>?_⟩
 ·exact keeps_K c.keep h (KX.keeps hk)
 intro φ s vs G FR hv
 obtain ⟨hm1,hm2⟩:=c.meth ("__init__",f) (mem_of_lookup hf)
 refine wpAny_call ?_
 have KX':=KX.keeps G.base
 obtain ⟨hh,g,d,t,os⟩:=s
 refine make_core (makes_of KX' c.makes) (looks_findIn KX' hm1) (fun self=>bind_fn KX' self (beq_iff_eq.mp hm2)) (.inl rfl) ?_
 have k1:∀ b o,hh.get? b=some o→(hh.push emptyDict).get? b=some o:=fun b o e=>Heap.get?_push_of_some _ e
 have hz:(hh.push emptyDict).objs.size=hh.objs.size+1:=Heap.size_push ..
 have G1:St prog w B (φ++[hh.objs.size]) (σ++[.ns []]) ⟨hh.push emptyDict,g,d,t,os⟩ :=
  G.alloc (ob:=.ns []) (get?_size _) k1 ⟨#[],0,Heap.get?_push_size _ rfl,fun e he=>by simp at he,Nat.le_refl _,fun x=>rfl⟩ G.fresh G.sizeNe
 have t1:Step [] φ hh (φ++[hh.objs.size]) (hh.push emptyDict):=Step.alloc (s:=⟨hh,g,d,t,os⟩) (s':=⟨hh.push emptyDict,g,d,t,os⟩) (get?_size _) k1
 have k2:∀ b o,(hh.push emptyDict).get? b=some o→((hh.push emptyDict).push (instObj C hh.objs.size)).get? b=some o:=fun b o e=>Heap.get?_push_of_some _ e
 have hidx:(φ++[hh.objs.size])[σ.length]?=some hh.objs.size:=by rw [← G.len];simp
 have G2:St prog w B (φ++[hh.objs.size]++[(hh.push emptyDict).objs.size]) (σ++[.ns []]++[.inst C σ.length]) ⟨(hh.push emptyDict).push (instObj C hh.objs.size),g,d,t,os⟩ :=
  G1.alloc (ob:=.inst C σ.length) (get?_size _) k2 ⟨hh.objs.size,Heap.get?_push_size _ rfl,idx_mono (List.prefix_append _ _) hidx⟩ G1.fresh G1.sizeNe
 have t2:Step [] (φ++[hh.objs.size]) (hh.push emptyDict) (φ++[hh.objs.size]++[(hh.push emptyDict).objs.size]) ((hh.push emptyDict).push (instObj C hh.objs.size)):=Step.alloc (s:=⟨hh.push emptyDict,g,d,t,os⟩) (s':=⟨_,g,d,t,os⟩) (get?_size _) k2
 have hself:Val (φ++[hh.objs.size]++[(hh.push emptyDict).objs.size]) ((hh.push emptyDict).push (instObj C hh.objs.size)) (.ref (σ.length+1)) (.ref (hh.objs.size+1)):=by
  rw [Val]
  refine ⟨_,rfl,?_⟩
  have hl:σ.length+1=(φ++[hh.objs.size]).length:=by rw [List.length_append,G.len];rfl
  rw [hl,hz];simp
 have tt:=t1.trans0 t2
 refine codeAny_mono (I.2 _ _ _ _ _ (hA.make) hP _ _ (.ref (hh.objs.size+1) :: vs) G2 (Frs.under (FR.step tt)) (.cons hself (Vals.mono tt.pre (fun b o e _=>k2 _ _ (k1 _ _ e)) xs hv))) fun r s' hr=>?_
 match r,hr with
 | .ok (.ret v),⟨φ',σ',t',G',x,hx,hv',q⟩ =>
  subst hv'
  have:v=.none:=by rw [Val] at hx;exact hx
  exact ⟨this,φ',σ',tt.trans0 t',G',_,hself.step G2 t',q⟩
 | .error e,⟨φ',σ',t',G',q⟩=>exact ⟨φ',σ',tt.trans0 t',G',q⟩
end
end Mine
namespace Mine
open PySem PySem.W PySem.Calls PyProof.Rows
noncomputable def vErr:List Value:=[.type "ValueError",.type "Exception",.type "BaseException",.type "object"]
noncomputable def ExcO (B:Shared) (C:Addr) (bm:List Value):Prop :=
 (∃ o,B.heap.get? sysModules=some o)∧∃ N nm q bs hdct sn sub ab col dd k0 k1 k2 k3 k5 mN,B.heap.get? C=some (excClassObj nm q C N bs bm hdct sn sub ab col dd k0 k1 k2 k3 k5 "ValueError.__new__")∧B.heap.Ns N mN∧mN "__init__" = none∧OwnTail B.heap vErr bm
section
variable {prog:Program} {w:World} {B:Shared} {mg mb:Str→Option Value} {φ φ':List Addr} {σ σ':List AObj} {s s':Shared} {env:Env} {ρ l:List (Str×V)} {A:Around} {X:XT} {Q:V→List AObj→Prop} {R:Addr→List AObj→Prop}
theorem xQ.mono {R':Addr→List AObj→Prop} (h:∀ C τ,R C τ→R' C τ) {e:Value} (x:xQ R e φ σ s):xQ R' e φ σ s:=by
 obtain ⟨C,t,τ,junk,a,h1,h2,h3,h4,h5⟩:=x
 exact ⟨C,t,τ,junk,a,h1,h2,h3,h4,h _ _ h5⟩
theorem E_x {e:Expr} (hs:Sub l ρ) (h:WE prog w B A env e ρ σ Q (xQ R)):WE prog w B A env e ρ σ Q (xL A B env l (xQ R)):=fun φ s G L =>
 wpAny_mono (h φ s G L) (fun _ _ x=>x) fun e s' hx=>by
  obtain ⟨φ',σ',t,G',x⟩:=hx
  exact ⟨φ',σ',t,G',x,(L.step G t).sub hs⟩
theorem X_raise {x:Str} {np cpos pos:Pos} {es:List Expr} {rest:List Stmt} {C:Addr} {bm:List Value} {Q:Fl→List (Str×V)→List AObj→Prop} (O:ExcO B C bm) (g:GC B mg x (.raw (.ref C))) (hh:A.handled=none) (hs:Sub l ρ)
  (h:WEs prog w B A env es ρ σ (fun xs σ₁=>xs.length≤sizeLine∧R C σ₁) (xL A B env l (xQ R)))
  (hx:env.kindOf x=some .globalImplicit:=by kernel_rfl!)
  (hp:∀ pos,(backTo pos (starEach es env)).any (·.1)=false:=by intro _;with_unfolding_all rfl)
  (hd:(x == ("__debug__":Str))=false:=by decide +kernel) :
  WX prog w B A env (.Raise (some (.Call (.Name x np) es [] cpos)) none pos :: rest) ρ σ Q (xL A B env l (xQ R)):=X_cons fun φ s G L=>by
 obtain ⟨⟨osys,hsys⟩,N,nm,q,bs,hdct,sn,sub,ab,col,dd,k0,k1,k2,k3,k5,mN,hC,hN,hni,T⟩:=O
 obtain ⟨hg,v,hv,hval⟩:=g
 obtain rfl:=hval.of_raw
 refine wpAny_Raise_call_subT (C:=C) (nm:=nm) (q:=q) (N:=N) (bs:=bs) (bm:=bm) (hdct:=hdct) (sn:=sn) (sub:=sub) (ab:=ab) (col:=col) (dd:=dd) (k0:=k0) (k1:=k1) (k2:=k2) (k3:=k3) (k5:=k5)
  F.excBase_ValueError (mN:=mN) (T.hasType (by decide)) hh (hp cpos) hni ?_
 have hname:WE prog w B A env (.Name x np) ρ σ (fun y σ₁=>y=.raw (.ref C)∧σ₁=σ) (fun _ _ _ _=>False):=E_global hg hv (.raw_ _) hx ⟨rfl,rfl⟩ hd
 refine wpAny_mono (hname φ s G L) (fun v s₁ hy=>?_) (fun _ _ hx=>by obtain ⟨_,_,_,_,x⟩:=hx;exact x.elim)
 obtain ⟨φ₁,σ₁,t₁,G₁,y,hy,rfl,rfl⟩:=hy
 refine ⟨hy.of_raw,?_⟩
 have L₁:=L.step G t₁
 refine evalArgs_any (hp cpos) (wpAny_mono (h cpos φ₁ s₁ G₁ L₁) (fun vs s₂ hx=>?_) fun e s₂ hx=>?_)
 ·obtain ⟨φ₂,σ₂,t₂,G₂,xs,hxs,hl,hR⟩:=hx
  refine ⟨rfl,by rw [hxs.length];exact hl,G₂.base _ _ hC,hN.keeps G₂.base,T.keeps G₂.base,fun h' e hm=>?_⟩
  obtain ⟨tp,he,_,_⟩:=hm.there
  have G₃:St prog w B (φ₂++[e]) (σ₂++[.exc C none]) { s₂ with heap:=h' } :=
   G₂.alloc (s':={ s₂ with heap:=h' }) hm.new hm.keeps ⟨_,_,he,⟨rfl,rfl⟩,rfl,rfl⟩ (fun hq=>by obtain ⟨o,e'⟩:=G₂.there hq;rw [hm.new] at e';cases e') (fun e'=>by
    have hn:=hm.new
    rw [e',G₂.base _ _ hsys] at hn;cases hn)
  have t₃:Step [] φ₂ s₂.heap (φ₂++[e]) h':=Step.alloc (s:=s₂) (s':={ s₂ with heap:=h' }) hm.new hm.keeps
  have tt:=t₁.trans0 (t₂.trans0 t₃)
  refine ⟨φ₂++[e],σ₂++[.exc C none],tt.nilD,G₃,⟨C,none,σ₂,[],e,rfl,(fun k hk=>nomatch hk),rfl,?_,hR⟩,(L.step G tt).sub hs⟩
  rw [← G₂.len];simp
 ·obtain ⟨φ₂,σ₂,t₂,G₂,x⟩:=hx
  exact ⟨φ₂,σ₂,(t₁.trans0 t₂).nilD,G₂,x⟩
end
end Mine
namespace Mine
open PySem PySem.W PySem.Calls PyProof.Rows
theorem bga_kind:builtinKind "BaseException.__getattribute__" = some .slot:=by decide +kernel
theorem bga_split:splitId "BaseException.__getattribute__" = some ("BaseException","__getattribute__"):=by decide +kernel
theorem check_bga {M:Model} {A:Around} {E:Value→Shared→Prop} {s:Shared} {self nm:Value} {Q:Unit→Shared→Prop} (hi:Looks M s.heap (isInstance self (.type "BaseException")) true) (q:Q () s) :
  wpAny M A (checkBuiltinCall "BaseException.__getattribute__" ⟨[self,nm],[]⟩) Q E s:=by
 have h:=@check_slot M A E s "BaseException.__getattribute__" "BaseException" "__getattribute__" self [nm] [] Q bga_kind bga_split hi
 have h2:=F.args_bexc_ga self nm
 exact h h2 q
noncomputable def excGetB (K:Frag) (C:Addr):Bool :=
 (findIn K (.ref C) "__getattribute__" == some (some (.builtin "BaseException.__getattribute__"))) && (findIn K (.ref C) "__getattr__" == some none) &&
 (findIn K (.ref C) "__class__" == some (some (.builtin "object.__class__"))) && (specialIn K (.builtin "object.__class__") "__get__" == some (some (.builtin "getset_descriptor.__get__"))) &&
 (takesIn K (.builtin "object.__class__") == some true) && (clsIn K C).isSome && (mroIn K C (.type "object") == some true) && (mroIn K C (.type "BaseException") == some true)
section
variable {prog:Program} {w:World} {A:Around} {E:Value→Shared→Prop} {s:Shared} {K:Frag} {x C D:Addr} {ox:Obj}
theorem exc_class {Q:Option Value→Shared→Prop} (X:K.In s.heap) (I:InstAt s.heap x ox C none) (e:excGetB K C=true) (h:Q (some (.ref C)) { s with toks:=s.toks+1 }):wpAny (model prog w) A (getAttr? (.ref x) "__class__") Q E s:=by
 unfold excGetB at e
 rw [Bool.and_eq_true,Bool.and_eq_true,Bool.and_eq_true,Bool.and_eq_true,Bool.and_eq_true,Bool.and_eq_true,Bool.and_eq_true] at e
 obtain ⟨⟨⟨⟨⟨⟨⟨e1,e2⟩,e3⟩,e4⟩,e5⟩,e6⟩,e7⟩,e8⟩:=e
 replace e1:=beq_iff_eq.mp e1;replace e2:=beq_iff_eq.mp e2;replace e3:=beq_iff_eq.mp e3;replace e4:=beq_iff_eq.mp e4
 replace e5:=beq_iff_eq.mp e5;replace e7:=beq_iff_eq.mp e7;replace e8:=beq_iff_eq.mp e8
 have hf:findObj K C none "__class__" = some (.bind (.builtin "getset_descriptor.__get__") (.builtin "object.__class__")):=by
  obtain ⟨cd,hc⟩:=Option.isSome_iff_exists.mp e6
  unfold findObj
  rw [hc,Option.bind_some,e3,Option.bind_some]
  simp [e4,e5]
 obtain ⟨hh,g,d,t,os⟩:=s
 have L0:=I.type (M:=model prog w)
 have L1:=looks_findIn (M:=model prog w) X e1
 have L2:=looks_findIn (M:=model prog w) X e2
 have L3:=looks_find (M:=model prog w) X I hf
 have L4:Looks (model prog w) hh (isInstance (.ref x) (.type "BaseException")) true:=L0.andThen (looks_subIn X e8)
 unfold getAttr? getAttrBy? getAttrBy
 refine wpAny_bind (wpAny_mkText (wpAny_bind (wpAny_attempt (wpAny_holding (wpAny_bind (L0.at (wpAny_bind (L1.at ?_))))))))
 have hx2:(onTheHeap (Value.ref C) && Value.builtin "BaseException.__getattribute__" == Value.builtin "object.__getattribute__")=false:=by
  rw [show (Value.builtin "BaseException.__getattribute__" == Value.builtin "object.__getattribute__")=false from by decide +kernel];rfl
 simp only [hx2,Bool.false_eq_true,if_false]
 unfold getAttrByItsOwn
 refine wpAny_bind (show wpAny _ _ (typeLookup (.ref C) "__getattr__") _ _ _ from L2.at ?_)
 refine wpAny_bind (wpAny_attempt (wpAny_holding ?_))
 show wpAny _ _ (boundAndCalled (.builtin "BaseException.__getattribute__") (.ref x) (.str "__class__" t)) _ _ _
 unfold boundAndCalled
 refine wpAny_bind (wpAny_of_eq (F.attr_ValueError.ga.bind (.ref x)) ?_)
 show wpAny _ _ (call (.builtin "BaseException.__getattribute__") [.ref x,.str "__class__" t]) _ _ _
 refine wpAny_call ?_
 refine codeAny_call_builtin F.attr_ValueError.ga.plain F.entry_bexc_ga ?_
 refine check_bga L4 ?_
 show wpAny _ _ (Builtin.«object.__getattribute__» _) _ _ _
 unfold Builtin.«object.__getattribute__»
 refine wpAny_bind (wpAny_pure (wpAny_bind (wpAny_pure (wpAny_bind (L0.at (wpAny_bind (L3.at ?_)))))))
 show wpAny _ _ (Builtin.ObjectAttr.bindTo (.builtin "getset_descriptor.__get__") (.builtin "object.__class__") (.ref x) (.ref C)) _ _ _
 show wpAny _ _ (holding [.builtin "object.__class__"] (call (.builtin "getset_descriptor.__get__") [.builtin "object.__class__",.ref x,.ref C]) >>= ret) _ _ _
 refine wpAny_bind (wpAny_holding (wpAny_call (class_get (s:=⟨hh,g,d,t+1,os⟩) (ox:=ox) (od:=none) X I e7 (wpAny_pure ?_))))
 show wpAny _ _ (handedOut (.ref C)) _ _ _
 rw [handedOut_of rfl]
 exact wpAny_pure (wpAny_pure h)
theorem exc_not {c:Value} {Q:Value→Shared→Prop} (X:K.In s.heap) (I:InstAt s.heap x ox C none) (e:excGetB K C=true) (hty:∀ (M:Model) h',K.In h'→Looks M h' (typeOf c) (.type "type")) (his:∀ (M:Model) h',K.In h'→Looks M h' (isType c) true)
  (hne:(Value.ref C == c)=false) (hsub:∀ (M:Model) h',K.In h'→Looks M h' (isSubtype (.ref C) c) false) (h:Q (.bool false) { s with toks:=s.toks+1 }):wpAny (model prog w) A (call (.builtin "isinstance") [.ref x,c]) Q E s:=by
 refine call_isinstance (S:=fun _ R s=>(K.In s.heap∧InstAt s.heap x ox C none)∧R (.ok (.ret (.bool false))) { s with toks:=s.toks+1 }) (fun p' w' A' R' s hs=>isinstance_outer ?_ (by intro q;cases q)) ⟨⟨X,I⟩,h⟩
 obtain ⟨⟨X,I⟩,h⟩:=hs
 have hcl:(clsIn K C).isSome=true:=by
  unfold excGetB at e
  rw [Bool.and_eq_true,Bool.and_eq_true,Bool.and_eq_true] at e
  exact e.1.1.2
 have hisC:Looks (model p' w') s.heap (isType (.ref C)) true:=by
  unfold clsIn at hcl
  split at hcl
  ·rename_i ho
   intro A' Q' E' s' k q
   unfold isType loadHead
   exact wpAny_bind (wpAny_loadPart (k _ _ (X _ _ ho)) (wpAny_pure q))
  ·cases hcl
 obtain ⟨h0,g,d,tt,os⟩:=s
 have L0:=I.type (M:=model p' w')
 have hs':=hsub (model p' w') h0 X
 unfold Builtin.«isinstance.nested»
 refine wpAny_bind (L0.at ?_)
 rw [if_neg (fun q=>by rw [hne] at q;exact Bool.noConfusion q)]
 refine wpAny_bind ((hty _ h0 X).at ?_)
 rw [if_pos (by decide)]
 k_delta "plainIsInstance"
 refine wpAny_bind (wpAny_bind ((his _ h0 X).at ?_))
 simp only [Bool.not_true,Bool.false_eq_true,if_false]
 refine wpAny_bind ((L0.andThen hs').at ?_)
 simp only [Bool.false_eq_true,if_false]
 refine wpAny_bind (exc_class X I e ?_)
 refine wpAny_bind (hisC.at ?_)
 simp only [Bool.not_true,Bool.false_eq_true,if_false]
 refine wpAny_bind (wpAny_rule ?_)
 refine hs'.at ?_
 first
  | exact wpAny_pure h
  | exact wpAny_pure (wpAny_pure h)
  | exact wpAny_bind (wpAny_pure (wpAny_pure h))
end
end Mine
namespace Mine
open PySem PySem.W PySem.Calls PyProof.Rows
noncomputable def nsB (K:Frag) (N:Addr):Bool:=match K.lookup N with
 | some ⟨_,_,.dict es _,_⟩=>(es.all fun e=>match e.key with | .str _ _=>true | _=>false) && (nsFind es "__init__").isNone
 | _=>false
noncomputable def tailB (K:Frag):List Value→Bool
 | []=>false
 | v :: r=>((v :: r) == vErr) || match v with
  | .ref A=>(match K.lookup A with
   | some ⟨_,_,.cls cd,_⟩=>nsB K cd.ns && tailB K r
   | _=>false)
  | _=>false
noncomputable def newB (sl:List (Option Value)):Bool:=sl == [sl.getD 0 none,sl.getD 1 none,sl.getD 2 none,sl.getD 3 none,some (.builtin "ValueError.__new__"),sl.getD 5 none]
noncomputable def excB (K:Frag) (C:Addr) (bm:List Value):Bool:=match K.lookup C with
 | some ⟨t,_,.cls cd,sl⟩=>(t == .type "type") && (cd.mro == .ref C :: bm) && !cd.hasDel && nsB K cd.ns && newB sl.toList && tailB K bm
 | _=>false
noncomputable def errB (K:Frag) (C:Addr) (bm:List Value):Bool :=
 excB K C bm && excGetB K C && (typeIn K (.ref C) == some (.type "type")) && (instIn K (.ref C) (.type "type") == some true) && (K.lookup sysModules).isSome
theorem nsB_of {K:Frag} {h:Heap} {N:Addr} (X:K.In h) (e:nsB K N=true):∃ m,h.Ns N m∧m "__init__" = none:=by
 unfold nsB at e
 split at e
 ·rename_i es n sl ho
  rw [Bool.and_eq_true] at e
  refine ⟨nsFind es,⟨_,es,n,X _ _ ho,rfl,fun d hd=>?_,fun _=>rfl⟩,by simpa using e.2⟩
  have:=Array.all_eq_true_iff_forall_mem.mp e.1 d hd
  split at this
  ·exact ⟨_,_,by assumption⟩
  ·cases this
 ·cases e
theorem tailB_of {K:Frag} {h:Heap} (X:K.In h):∀ {l:List Value},tailB K l=true→OwnTail h vErr l
 | [],e=>by cases e
 | v :: r,e=>by
  unfold tailB at e
  rcases Bool.or_eq_true_iff.mp e with q | q
  ·rw [beq_iff_eq.mp q];exact .base
  ·split at q
   ·split at q
    ·rename_i ho
     rw [Bool.and_eq_true] at q
     obtain ⟨m,h1,h2⟩:=nsB_of X q.1
     exact .own (X _ _ ho) h1 h2 (tailB_of X q.2)
    ·cases q
   ·cases q
structure Err (B:Shared) (K:Frag) (C:Addr) (bm:List Value):Prop where
 inK:K.In B.heap
 o:ExcO B C bm
 get:excGetB K C=true
 mro:∀ base,mroIn K C base=some ((Value.ref C :: bm).contains base)
 typ:typeIn K (.ref C)=some (.type "type")
 inst:instIn K (.ref C) (.type "type")=some true
theorem Err.of {B:Shared} {K:Frag} {C:Addr} {bm:List Value} (X:K.In B.heap) (e:errB K C bm=true):Err B K C bm:=by
 unfold errB at e
 rw [Bool.and_eq_true,Bool.and_eq_true,Bool.and_eq_true,Bool.and_eq_true] at e
 obtain ⟨⟨⟨⟨e1,e2⟩,e3⟩,e4⟩,e5⟩:=e
 unfold excB at e1
 split at e1
 ·rename_i t dd cd sl ho
  rw [Bool.and_eq_true,Bool.and_eq_true,Bool.and_eq_true,Bool.and_eq_true,Bool.and_eq_true] at e1
  obtain ⟨⟨⟨⟨⟨f0,f1⟩,f2⟩,f3⟩,f4⟩,f5⟩:=e1
  have f0:=beq_iff_eq.mp f0
  have f1:=beq_iff_eq.mp f1
  refine ⟨X,⟨?_,?_⟩,e2,fun base=>?_,beq_iff_eq.mp e3,beq_iff_eq.mp e4⟩
  ·obtain ⟨o,h⟩:=Option.isSome_iff_exists.mp e5
   exact ⟨o,X _ _ h⟩
  ·obtain ⟨m,h1,h2⟩:=nsB_of X f3
   have hob:=X _ _ ho
   obtain ⟨nm,bs,mro,ns,qn,hd,sn,sub,ab,col,del⟩:=cd
   dsimp only at f1 f2 f3 h1
   have f2:del=false:=by simpa using f2
   subst f0 f1 f2
   obtain ⟨sl⟩:=sl
   have hs:sl=[sl.getD 0 none,sl.getD 1 none,sl.getD 2 none,sl.getD 3 none,some (.builtin "ValueError.__new__"),sl.getD 5 none]:=beq_iff_eq.mp f4
   generalize sl.getD 0 none=k0 at hs
   generalize sl.getD 1 none=k1 at hs
   generalize sl.getD 2 none=k2 at hs
   generalize sl.getD 3 none=k3 at hs
   generalize sl.getD 5 none=k5 at hs
   subst hs
   exact ⟨ns,nm,qn,bs,hd,sn,sub,ab,col,dd,k0,k1,k2,k3,k5,m,hob,h1,h2,tailB_of X f5⟩
  ·unfold mroIn clsIn
   rw [ho]
   simp [f1]
 ·cases e1
section
variable {prog:Program} {w:World} {B:Shared} {mg mb:Str→Option Value} {φ φ':List Addr} {σ σ':List AObj} {s s':Shared} {env:Env} {ρ l:List (Str×V)} {A:Around} {X:XT} {Q:V→List AObj→Prop} {R:Addr→List AObj→Prop} {K:Frag} {C D:Addr} {bm bmD:List Value}
theorem isi_exc {k:Nat} {t:Option Nat} {b:Bool} (hC:Err B K C bm) (hD:Err B K D bmD) (hσ:σ[k]?=some (.exc C t)) (hb:(Value.ref C :: bm).contains (.ref D)=b) (q:Q (.bool b) σ):WC prog w B A (.builtin "isinstance") [.ref k,.raw (.ref D)] σ Q X:=fun φ s vs G FR hv=>by
 obtain ⟨v,u,rfl,hx,hu⟩:=hv.two
 obtain rfl:=hu.of_raw
 obtain ⟨a,rfl,ha⟩:=hx.of_ref
 obtain ⟨a',ha',o,vs,ho,⟨hc,hdi⟩,hd,_⟩:=G.get hσ
 rw [ha] at ha';cases ha'
 have X:=hC.inK.keeps G.base
 have I:InstAt s.heap a o C none:=⟨ho,hc,by unfold notCls;rw [hd],by rw [hdi];trivial⟩
 cases b with
 | true =>
  refine isi_call (t:=.ref C) X (fun M=>I.type) ?_ (by intro q;cases q) (Post.here G ⟨_,.bool_ _,q⟩)
  unfold isIn
  rw [hD.typ,hD.inst]
  have h1:(clsIn K D).isSome=true:=by
   have:=hD.mro (.ref D)
   unfold mroIn at this
   obtain ⟨cd,h,_⟩:=Option.bind_eq_some_iff.mp this
   rw [h];rfl
  have h2:subIn K (.ref C) (.ref D)=some true:=by show mroIn K C (.ref D)=_;rw [hC.mro,hb]
  rw [h1,h2];simp
 | false =>
  have hne:(Value.ref C == Value.ref D)=false:=by
   rw [List.contains_cons,Bool.or_eq_false_iff] at hb
   have:=hb.1
   rw [Bool.eq_false_iff] at this ⊢
   exact fun h=>this (by rw [beq_iff_eq] at h ⊢;exact h.symm)
  refine exc_not X I hC.get (fun M h' X'=>looks_typeIn X' hD.typ) (fun M h' X'=>?_) hne (fun M h' X'=>looks_subIn X' (by show mroIn K C (.ref D)=_;rw [hC.mro,hb])) (Post.tok G ⟨_,.bool_ _,q⟩)
  have h1:(clsIn K D).isSome=true:=by
   have:=hD.mro (.ref D)
   unfold mroIn at this
   obtain ⟨cd,h,_⟩:=Option.bind_eq_some_iff.mp this
   rw [h];rfl
  unfold clsIn at h1
  split at h1
  ·rename_i ho
   intro A' Q' E' s' k q
   unfold isType loadHead
   exact wpAny_bind (wpAny_loadPart (k _ _ (X' _ _ ho)) (wpAny_pure q))
  ·cases h1
theorem ty_ValueError:typeOf (.type "ValueError")=pure (.type "type"):=by kernel_rfl
theorem isi_excV {k:Nat} {t:Option Nat} (hC:Err B K C bm) (hσ:σ[k]?=some (.exc C t)) (hb:bm.contains (.type "ValueError")=true) (q:Q (.bool true) σ):WC prog w B A (.builtin "isinstance") [.ref k,.raw (.type "ValueError")] σ Q X:=fun φ s vs G FR hv=>by
 obtain ⟨v,u,rfl,hx,hu⟩:=hv.two
 obtain rfl:=hu.of_raw
 obtain ⟨a,rfl,ha⟩:=hx.of_ref
 obtain ⟨a',ha',o,vs,ho,⟨hc,hdi⟩,hd,_⟩:=G.get hσ
 rw [ha] at ha';cases ha'
 have X:=hC.inK.keeps G.base
 have I:InstAt s.heap a o C none:=⟨ho,hc,by unfold notCls;rw [hd],by rw [hdi];trivial⟩
 refine call_isinstance (S:=fun _ R s=>(K.In s.heap∧InstAt s.heap a o C none)∧R (.ok (.ret (.bool true))) s) (fun p' w' A' R' s hs=>isinstance_outer ?_ (by intro q;cases q)) ⟨⟨X,I⟩,Post.here G ⟨_,.bool_ _,q⟩⟩
 obtain ⟨⟨X,I⟩,h⟩:=hs
 obtain ⟨h0,g,d,tt,os⟩:=s
 have L0:=I.type (M:=model p' w')
 have L1:Looks (model p' w') h0 (isSubtype (.ref C) (.type "ValueError")) true:=looks_subIn X (by show mroIn K C _=_;rw [hC.mro,List.contains_cons,hb,Bool.or_true])
 unfold Builtin.«isinstance.nested»
 refine wpAny_bind (L0.at ?_)
 rw [if_neg (by intro q;cases beq_iff_eq.mp q)]
 refine wpAny_bind (wpAny_of_eq ty_ValueError ?_)
 rw [if_pos (by decide)]
 k_delta "plainIsInstance"
 refine wpAny_bind (wpAny_bind (wpAny_pure ?_))
 simp only [Bool.not_true,Bool.false_eq_true,if_false]
 refine wpAny_bind ((L0.andThen L1).at ?_)
 simp only [if_true]
 exact wpAny_pure (wpAny_pure h)
theorem Loc.mark {h:Heap} {e:Option Value} (L:Loc A B env ρ φ h):Loc (A.mark e) B env ρ φ h:=⟨L.kind,L.glob,L.blt,L.ns,L.own,L.cells,L.apart,L.val,L.frs,L.top⟩
end
section
variable {M:Model} {A:Around} {E:Value→Shared→Prop}
variable {nm q nm' q':Str} {C N G N':Addr} {bs bm bs' bm':List Value} {hdct hdct':Bool} {sn sn':List Str} {sub sub':List Value} {ab ab':Bool} {col col':Option Bool} {dd dd':Option Addr} {k0 k1 k2 k3 k5 j0 j1 j2 j3 j5:Option Value} {newId newId':String}
set_option maxHeartbeats 2000000 in
theorem excMatches_own {h:Heap} {g:Array GenState} {d:Drawn} {t:Nat} {os:OsState} {e:Addr} {oe:Obj} {Q:Bool→Shared→Prop}
  (hC:h.get? C=some (excClassObj nm q C N bs bm hdct sn sub ab col dd k0 k1 k2 k3 k5 newId)) (hG:h.get? G=some (excClassObj nm' q' G N' bs' bm' hdct' sn' sub' ab' col' dd' j0 j1 j2 j3 j5 newId')) (he:h.get? e=some oe) (hcls:oe.cls=.ref C)
  (hbase:bm'.contains (.type "BaseException")=true) (hin:(Value.ref C :: bm).contains (.ref G)=true)
  (hq:Q true ⟨h,g,d,t,os⟩):wpAny M A (excMatches (.ref e) (.ref G)) Q E ⟨h,g,d,t,os⟩:=by
 have hcB:(Value.ref G :: bm').contains (.type "BaseException")=true:=by rw [List.contains_cons,hbase,Bool.or_true]
 have f:=tc_notTuple
 unfold excMatches
 repeat (first | (with_reducible refine wpAny_loadPart_at he ?_;rw [hcls]) | with_reducible refine wpAny_loadPart_at hG ?_ | (with_reducible refine wpAny_isSubtype_exc hG ?_;rw [hcB]) | (with_reducible refine wpAny_isSubtype_exc hC ?_;rw [hin]) | wp_step)
 exact hq
end
section
variable {prog:Program} {w:World} {B:Shared} {mg mb:Str→Option Value} {φ φ':List Addr} {σ σ':List AObj} {s s':Shared} {env:Env} {ρ:List (Str×V)} {A:Around} {X:XT}
theorem X_try {body suite rest:List Stmt} {b₀:Stmt} {x n:Str} {np hpos pos:Pos} {G:Addr} {bmG:List Value} {Q:Fl→List (Str×V)→List AObj→Prop} (l:List (Str×V)) (R:Addr→List AObj→Prop)
  (O:ExcO B G bmG) (g:GC B mg x (.raw (.ref G)))
  (hb:WX prog w B A env body ρ σ (seqQ prog w B A env rest Q X) (xL A B env l (xQ R)))
  (hh:∀ e C t τ junk,R C τ→(∃ bm,ExcO B C bm∧(Value.ref C :: bm).contains (.ref G)=true)∧
   WX prog w B (A.mark (some (.ref e))) env (b₀ :: suite) ((n,.ref τ.length) :: l) (τ++.exc C t :: junk) (fun fl _ σ'=>∃ v,fl=.ret v∧Q (.ret v) [] σ') (fun _ _ _ _=>False))
  (hx:env.kindOf x=some .globalImplicit:=by kernel_rfl!) (hn:env.kindOf n=some .local:=by kernel_rfl!)
  (hd:(x == ("__debug__":Str))=false:=by decide +kernel) :
  WX prog w B A env (.Try body [.ExceptHandler (some (.Name x np)) (some n) (b₀ :: suite) hpos] [] [] pos :: rest) ρ σ Q X:=X_cons fun φ s G0 L=>by
 refine wpAny_Try_except (wpAny_mono (hb φ s G0 L) (fun f s₁ hx=>?_) fun e s₁ hx=>?_)
 ·obtain ⟨φ₁,σ₁,t₁,G₁,fl,ρ₁,hf,L₁,q⟩:=hx
  cases fl with
  | next=>obtain rfl:f=.next:=hf;exact wpAny_execs_nil ⟨φ₁,σ₁,t₁,G₁,.next,ρ₁,rfl,L₁,q⟩
  | brk=>obtain rfl:f=.brk:=hf;exact ⟨φ₁,σ₁,t₁,G₁,.brk,ρ₁,rfl,L₁,q⟩
  | cont=>obtain rfl:f=.cont:=hf;exact ⟨φ₁,σ₁,t₁,G₁,.cont,ρ₁,rfl,L₁,q⟩
  | ret y=>obtain ⟨u,rfl,hu⟩:=hf;exact ⟨φ₁,σ₁,t₁,G₁,.ret y,ρ₁,⟨u,rfl,hu⟩,L₁,q⟩
 ·obtain ⟨φ₁,σ₁,t₁,G₁,⟨C,t,τ,junk,ea,rfl,htb,rfl,ha,hR⟩,L₁⟩:=hx
  refine note_W G₁ htb L₁ ha fun φ₂ t₂ junk₂ h₂ st₂ htb₂ ha₂ G₂=>?_
  refine flight_W G₂ htb₂ ha₂ fun h₃ st₃ G₃=>?_
  have st:Step [] φ₁ s₁.heap φ₂ h₃:=st₂.trans0 st₃
  have L₃:Loc (A.mark (some (.ref ea))) B env l φ₂ h₃:=(L₁.step G₁ st).mark
  obtain ⟨⟨bm,OC,hin⟩,hs⟩:=hh ea C (some t₂) τ junk₂ hR
  obtain ⟨_,N,nm,q,bs,hdct,sn,sub,ab,col,dd,k0,k1,k2,k3,k5,mN,hC,hN,hni,T⟩:=OC
  obtain ⟨_,N',nm',q',bs',hdct',sn',sub',ab',col',dd',j0,j1,j2,j3,j5,mN',hG,hN',hni',T'⟩:=O
  obtain ⟨hg,v,hv,hval⟩:=g
  obtain rfl:=hval.of_raw
  refine wpAny_handleBy_cons (codeAny_handlers_test ?_) (by intro q;cases q)
  have hname:WE prog w B (A.mark (some (.ref ea))) env (.Name x np) l (τ++.exc C (some t₂) :: junk₂) (fun y σ'=>y=.raw (.ref G)∧σ'=τ++.exc C (some t₂) :: junk₂) (fun _ _ _ _=>False):=E_global hg hv (.raw_ _) hx ⟨rfl,rfl⟩ hd
  refine wpAny_mono (hname φ₂ { s₁ with heap:=h₃ } G₃ L₃) (fun v s₄ hy=>?_) (fun _ _ hx=>by obtain ⟨_,_,_,_,x⟩:=hx;exact x.elim)
  obtain ⟨φ₄,σ₄,st₄,G₄,y,hy,rfl,rfl⟩:=hy
  obtain rfl:=hy.of_raw
  have ha₄:φ₄[τ.length]?=some ea:=idx_mono st₄.pre ha₂
  have L₄:=L₃.step G₃ st₄
  obtain ⟨oe,vs,e1,⟨hc,_⟩,_⟩:=G₄.exc_ ha₄
  obtain ⟨h4,g4,d4,tk4,os4⟩:=s₄
  refine excMatches_own (G₄.base _ _ hC) (G₄.base _ _ hG) e1 hc (T'.hasType (by decide)) hin ?_
  show codeAny _ _ (.handlers _ [.ExceptHandler none (some n) (b₀ :: suite) hpos] env) _ _
  refine codeAny_handlers_suite_as ?_
  refine flight_W G₄ htb₂ ha₄ fun h₅ st₅ G₅=>?_
  have L₅:=L₄.step G₄ st₅
  refine store_name (y:=.ref τ.length) G₅ L₅ (by rw [Val];exact ⟨ea,rfl,ha₄⟩) (.inl hn) fun h₆ tk₆ st₆ G₆ L₆=>?_
  refine wpAny_mono (hs φ₄ _ G₆ L₆) (fun f s₇ hx=>?_) (fun _ _ hx=>by obtain ⟨_,_,_,_,x⟩:=hx;exact x.elim)
  obtain ⟨φ₇,σ₇,st₇,G₇,fl,ρ₇,hf,L₇,v,rfl,q⟩:=hx
  obtain ⟨u,rfl,hu⟩:=hf
  obtain ⟨m,hm⟩:=L₇.ns
  refine wpAny_nameGoes hn hm (by rw [L₇.kind];rfl) fun h₈ m' hns hsb=>?_
  have hnst:∀ o,s₇.heap.get? env.locals=some o→¬ Still o:=fr_notStill L₇ _ (.head _)
  have hown:=L₇.own _ (List.mem_cons_self (l:=env.cells.map (·.2)) (a:=env.locals))
  have G₈:St prog w B φ₇ σ₇ { s₇ with heap:=h₈,toks:=s₇.toks+1 }:=G₇.sameBut (s':={ s₇ with heap:=h₈,toks:=s₇.toks+1 }) hsb hown.1 hown.2 hnst
  have L₈:Loc A B env [] φ₇ h₈:=⟨L₇.kind,L₇.glob,L₇.blt,⟨_,hns⟩,L₇.own,fun z c hz=>by
    obtain ⟨v',n'⟩:=L₇.cells z c hz
    exact ⟨v',n'.sameBut hsb (locals_ne_cell L₇ hz)⟩,L₇.apart,(fun z u hz=>nomatch hz),L₇.frs.at hsb.extBut (.inl (let ⟨o,es,n,e,hd,_⟩:=hns;⟨o,es,n,e,hd⟩)),L₇.top⟩
  have t8:Step (fr env) φ₇ s₇.heap φ₇ h₈:=⟨List.prefix_refl _,fun _ h=>.inl h,fun b o e h1 h2=>⟨o,hsb.extBut b o (fun h=>h2 (h ▸ .head _)) e,.refl o⟩⟩
  have tA:Step (fr env) φ s.heap φ₄ h₅:=t₁.transF ((st.trans0 st₄).trans0 st₅).nilD L₁
  exact ⟨φ₇,σ₇,((tA.transF st₆ L₅).transF st₇ L₆).transF t8 L₇,G₈,.ret v,[],⟨u,rfl,hu.sameBut hsb hnst⟩,L₈,q⟩
end
end Mine
namespace Mine
open PySem PySem.W PySem.Calls PyProof.Rows
structure AOk0 (n:Nat) (A:Around):Prop where
 depth:A.depth+n≤900
 units:A.units+10 * n≤9000
theorem AOk.ok0 {n:Nat} {A:Around} {e:Option Value} (h:AOk n A):AOk0 n (A.mark e):=⟨h.depth,h.units⟩
theorem AOk0.deeper {n:Nat} {A:Around} {env:Env} (h:AOk0 (n+1) A):AOk0 n (A.deeper env):=by
 obtain ⟨h1,h2⟩:=h
 exact ⟨by show A.depth+1+n≤900;(clear h2;lia),by show A.units+3+10 * n≤9000;(clear h1;lia)⟩
theorem AOk0.le {n m:Nat} {A:Around} (h:AOk0 n A) (hm:m≤n):AOk0 m A:=⟨by have:=h.depth;(clear h;lia),by have:=h.units;(clear h;lia)⟩
theorem AOk0.room {n:Nat} {A:Around} (h:AOk0 n A):A.depth < recursionLimit:=by have:=h.depth;show _ < 1000;(clear h;lia)
section
variable (prog:Program) (w:World) (B:Shared) (mg:Str→Option Value)
noncomputable def CF0 (x:Str) (n:Nat) (P:List V→List AObj→(V→List AObj→Prop)→XT→Prop):Prop :=
 B.heap.Ns mainGlobals mg∧∃ v,mg x=some v∧Keep B v∧∀ A xs σ Q X,AOk0 n A→P xs σ Q X→WC prog w B A v xs σ Q X
end
section
variable {prog:Program} {w:World} {B:Shared} {mg mb:Str→Option Value} {φ φ':List Addr} {σ σ':List AObj} {s s':Shared} {env:Env} {ρ:List (Str×V)} {A:Around} {X:XT} {Q:V→List AObj→Prop}
theorem E_cf0 {x:Str} {px pos:Pos} {es:List Expr} {n:Nat} {P:List V→List AObj→(V→List AObj→Prop)→XT→Prop} (C:CF0 prog w B mg x n P) (hA:AOk0 n A)
  (h:WEs prog w B A env es ρ σ (fun xs σ₁=>P xs σ₁ Q X) X)
  (hx:env.kindOf x=some .globalImplicit:=by kernel_rfl!)
  (hp:∀ pos,(backTo pos (starEach es env)).any (·.1)=false:=by intro _;with_unfolding_all rfl)
  (hd:(x == ("__debug__":Str))=false:=by decide +kernel) :
  WE prog w B A env (.Call (.Name x px) es [] pos) ρ σ Q X:=by
 obtain ⟨hg,v,hv,hk,hc⟩:=C
 exact E_call (E_global hg hv (.raw_ _) hx ⟨rfl,fun pos φ s G L=>(h pos φ s G L).mono fun vs φ' σ' s' ⟨xs,h1,h2⟩=>⟨xs,h1,hc A xs σ' Q X hA h2⟩⟩ hd) hk hp
theorem CF0_of {d:DefRec} {names:List Str} {n:Nat} {P:List V→List AObj→(V→List AObj→Prop)→XT→Prop} (gl:Gl B mg mb) (H:HasF B mg d) (g:Good d names)
  (h:∀ A pm code doc L a xs σ Q X,AOk0 n A→P xs σ Q X→xs.length=names.length∧WX prog w B A (callEnvC (docDef d.name d.params d.body d.scope pm code doc) L a) d.body (names.zip xs) σ (retQ σ Q) (fun _ _ _ _=>False)) :
  CF0 prog w B mg d.name (n+1) P:=by
 obtain ⟨a,pm,code,doc,hm,F⟩:=H.fn gl.lim g
 refine ⟨gl.g,_,hm,Keep.fn F,fun A xs σ Q X hA hP=>WC.clean (C_fn F ?_ hA.room fun L=>?_)⟩
 ·exact (h A pm code doc 0 a xs σ Q X (hA.le (Nat.le_succ n)) hP).1
 ·exact (h _ pm code doc L a xs σ Q X hA.deeper hP).2
theorem CM_ofx {f:Addr} {d:DefRec} {names:List Str} {n:Nat} {P:List V→List AObj→(V→List AObj→Prop)→XT→Prop} (gl:Gl B mg mb) (H:HasM B f d) (g:GoodM d names)
  (h:∀ A pm code doc q L a xs σ Q X,AOk n A→P xs σ Q X→xs.length=names.length∧∃ X',XOk A B (callEnvC { docDef d.name d.params d.body d.scope pm code doc with qualname:=q } L a) X' X∧
   WX prog w B A (callEnvC { docDef d.name d.params d.body d.scope pm code doc with qualname:=q } L a) d.body (names.zip xs) σ (retQ σ Q) X') :
  CM prog w B f (n+1) P:=by
 obtain ⟨o,pm,code,doc,q,h2,h3,h4⟩:=H
 have F:Fn B f names { docDef d.name d.params d.body d.scope pm code doc with qualname:=q } d.body:=⟨⟨o,h2,h3⟩,gl.lim,h4,rfl,rfl,rfl,rfl,g.bind q pm code doc,g.kinds,g.nodup,g.cnodup,g.co,g.gen,g.kind⟩
 refine ⟨Keep.fn F,fun A xs σ Q X hA hP=>WK.clean (C_fn_codex F ?_ hA.room fun L=>?_)⟩
 ·exact (h A pm code doc q 0 f xs σ Q X (hA.le (Nat.le_succ n)) hP).1
 ·exact (h _ pm code doc q L f xs σ Q X hA.deeper hP).2
noncomputable def codeB (K:Frag) (c:Addr) (q:Str):Bool:=match K.lookup c with
 | some ⟨_,_,.fields vs,_⟩=>(match (vs:Array Value)[1]? with | some (Value.str x _)=>x == q | _=>false)
 | _=>false
theorem hasM_of {K:Frag} {f c:Addr} {d:DefRec} {pm doc:Value} {q:Str} (X:K.In B.heap) (h:K.lookup f=some ⟨.type "function",none,.func { docDef d.name d.params d.body d.scope pm (.ref c) doc with qualname:=q },#[]⟩) (hc:codeB K c q=true):HasM B f d:=by
 refine ⟨_,pm,.ref c,doc,q,X _ _ h,rfl,?_⟩
 unfold codeB at hc
 split at hc
 ·rename_i ho
  split at hc
  ·rename_i h1
   exact ⟨c,_,_,_,rfl,X _ _ ho,rfl,by rw [h1,beq_iff_eq.mp hc]⟩
  ·cases hc
 ·cases hc
theorem C_int_bool {b:Bool} (q:Q (.int (if b then 1 else 0)) σ):WC prog w B A (.type "int") [.bool b] σ Q X:=fun φ s vs G FR hv=>by
 obtain ⟨v,rfl,h1⟩:=hv.one
 obtain rfl:=h1.of_bool
 exact call_int_bool (Post.tok G ⟨_,.int_ _ _,q⟩)
end
end Mine
namespace Mine
open PySem PySem.W PySem.Calls PyProof.Rows
section
variable {prog:Program} {w:World} {B:Shared} {mg mb:Str→Option Value} {φ φ':List Addr} {σ σ':List AObj} {s s':Shared} {env:Env} {ρ l:List (Str×V)} {A:Around} {X:XT} {Q:V→List AObj→Prop}
end
end Mine
namespace Mine
open PySem PySem.W PySem.Calls PyProof.Rows
section
variable {prog:Program} {w:World} {B:Shared} {mg mb:Str→Option Value} {φ φ':List Addr} {σ σ':List AObj} {s s':Shared} {env:Env} {ρ l:List (Str×V)} {A:Around} {X:XT} {Q:V→List AObj→Prop}
theorem C_clear_dict {k:Nat} {es:List (Key×V)} (hσ:σ[k]?=some (.dict es none)) (hl:es.length≤sizeLine) (q:Q .none (σ.set k (.dict [] none))):WC prog w B A (.builtin "dict.clear") [.ref k] σ Q X:=fun φ s vs G FR hv=>by
 obtain ⟨v,rfl,h1⟩:=hv.one
 obtain ⟨a,rfl,ha⟩:=h1.of_ref
 obtain ⟨a',ha',kvs,ep,hd,hvs,_⟩:=G.get hσ
 rw [ha] at ha';cases ha'
 refine call_meetsIn F.slot_dict_clear hd.dictOf.mapOf.typeIs F.entry_dict_clear (F.args_dict_clear_1 _) (meets_dict_clear (kk prog w) a) ⟨kvs,hd.dictOf,by rw [hvs.length];exact hl,fun h' hd' hsb=>?_⟩
 obtain ⟨ep',hd''⟩:=hd'.dictAt
 exact ⟨φ,_,Step.update hsb (List.mem_of_getElem? ha),G.update (s':={ s with heap:=h' }) (ob:=.dict [] none) ha hsb ⟨_,ep',hd'',.nil,fun n e=>by cases e⟩,.none,.none_,q⟩
theorem X_quiet {ss:List Stmt} {Q:Fl→List (Str×V)→List AObj→Prop} (h:WX prog w B A env ss ρ σ Q (xL A B env l (xQ fun _ _=>False))):WX prog w B A env ss ρ σ Q (fun _ _ _ _=>False):=fun φ s G L =>
 wpAny_mono (h φ s G L) (fun _ _ x=>x) fun e s' hx=>by
  obtain ⟨φ',σ',t,G',x,_⟩:=hx
  obtain ⟨_,_,_,_,_,_,_,_,_,h⟩:=x
  exact h.elim
noncomputable def XR (X:XT) (R:Addr→List AObj→Prop):Prop:=X=xQ R∨R=fun _ _=>False
theorem XR.of {R:Addr→List AObj→Prop} {ss:List Stmt} {Q:Fl→List (Str×V)→List AObj→Prop} (h:XR X R) (hw:WX prog w B A env ss ρ σ Q (xL A B env [] (xQ R))):∃ X',XOk A B env X' X∧WX prog w B A env ss ρ σ Q X':=by
 rcases h with rfl | rfl
 ·exact ⟨_,.exc,hw⟩
 ·exact ⟨_,.no,X_quiet hw⟩
end
end Mine
namespace Mine
open PySem PySem.W PySem.Calls PyProof.Rows
section
variable {p:Program} {loose:List Str} {mean:ExcName→Option Value} {mg mb:Str→Option Value} {B:Shared}
theorem has_of (T:Top p loose mean mg mb B.heap) (d:DefRec) {i:Nat} (hi:(recsOf p)[i]?=some d):HasF B mg d:=by
 obtain ⟨a,o,pm,code,doc,h1,h2,h3,h4⟩:=T.fn d (List.mem_of_getElem? hi)
 exact ⟨a,o,pm,code,doc,h1,h2,h3,h4⟩
noncomputable def topHas (p:Program) (loose:List Str) (x:Str):Bool:=startupNames.contains x || loose.contains x || ((recsOf p).map (·.name)).contains x || ((litsOf p).map (·.1)).contains x || ((clssOf p loose).map (·.name)).contains x
theorem bi_of (T:Top p loose mean mg mb B.heap) {x:Str} {v:Value} (hb:bootBuiltins x=some v) (hx:topHas p loose x=false) (hn:(x == ("__name__":Str))=false):Bi B mg mb x v:=by
 unfold topHas at hx
 simp only [Bool.or_eq_false_iff] at hx
 obtain ⟨⟨⟨⟨h1,h2⟩,h3⟩,h4⟩,h5⟩:=hx
 refine ⟨T.g,T.b,T.free x ?_ ?_ ?_ ?_ ?_,by rw [T.builtins x (by simpa using hn)];exact hb⟩ <;> (intro hm;simp_all)
noncomputable def bltNames:List Str:=["len","isinstance","max","min","sum","sorted","int","bool","str","tuple","list","dict","set","range","enumerate"]
theorem blt_of (T:Top p loose mean mg mb B.heap) (h:bltNames.all (fun x=>!topHas p loose x)=true):Blt B mg mb:=by
 have hx:∀ x∈bltNames,topHas p loose x=false:=fun x hx=>by simpa using List.all_eq_true.mp h x hx
 refine ⟨?_,?_,?_,?_,?_,?_,?_,?_,?_,?_,?_,?_,?_,?_,?_⟩
 ·exact bi_of T (by kernel_rfl) (hx _ (List.mem_of_getElem? (i:=0) rfl)) (by decide +kernel)
 ·exact bi_of T (by kernel_rfl) (hx _ (List.mem_of_getElem? (i:=1) rfl)) (by decide +kernel)
 ·exact bi_of T (by kernel_rfl) (hx _ (List.mem_of_getElem? (i:=2) rfl)) (by decide +kernel)
 ·exact bi_of T (by kernel_rfl) (hx _ (List.mem_of_getElem? (i:=3) rfl)) (by decide +kernel)
 ·exact bi_of T (by kernel_rfl) (hx _ (List.mem_of_getElem? (i:=4) rfl)) (by decide +kernel)
 ·exact bi_of T (by kernel_rfl) (hx _ (List.mem_of_getElem? (i:=5) rfl)) (by decide +kernel)
 ·exact bi_of T (by kernel_rfl) (hx _ (List.mem_of_getElem? (i:=6) rfl)) (by decide +kernel)
 ·exact bi_of T (by kernel_rfl) (hx _ (List.mem_of_getElem? (i:=7) rfl)) (by decide +kernel)
 ·exact bi_of T (by kernel_rfl) (hx _ (List.mem_of_getElem? (i:=8) rfl)) (by decide +kernel)
 ·exact bi_of T (by kernel_rfl) (hx _ (List.mem_of_getElem? (i:=9) rfl)) (by decide +kernel)
 ·exact bi_of T (by kernel_rfl) (hx _ (List.mem_of_getElem? (i:=10) rfl)) (by decide +kernel)
 ·exact bi_of T (by kernel_rfl) (hx _ (List.mem_of_getElem? (i:=11) rfl)) (by decide +kernel)
 ·exact bi_of T (by kernel_rfl) (hx _ (List.mem_of_getElem? (i:=12) rfl)) (by decide +kernel)
 ·exact bi_of T (by kernel_rfl) (hx _ (List.mem_of_getElem? (i:=13) rfl)) (by decide +kernel)
 ·exact bi_of T (by kernel_rfl) (hx _ (List.mem_of_getElem? (i:=14) rfl)) (by decide +kernel)
theorem st_nil {prog:Program} {w:World} {o:Obj} (hs:B.heap.get? cStatics=some o):St prog w B [] [] B :=
 ⟨fun _ _ e=>e,fun _ h=>(nomatch h),.nil,rfl,fun k a ob h=>by simp at h,rfl,rfl,⟨o,hs⟩,fun h=>(nomatch h)⟩
theorem law_end {prog:Program} {w:World} {d:DefRec} {fa scr:Addr} {c:ClaimW} {cl:Str→Option Addr} {mean':ExcName→Option Value} {args:List WData} (T:Top p loose mean mg mb B.heap) (H:HasF B mg d) (hfa:mg d.name=some (.ref fa))
  (g:Good d ["_law_script"]) (hg:B.gens = #[]) (hr:∀ cls,c.raises args cls=false) (hrd:∀ h,ReadsW c.records cl h (.bool true) (.bool true) []) (hp:c.post args (.bool true) args=true)
  (h:∀ A pm code doc L a,AOk 50 A→WX prog w B A (callEnvC (docDef d.name d.params d.body d.scope pm code doc) L a) d.body [("_law_script",.raw (.ref scr))] [] (fun fl _ _=>retV fl=.bool true) (fun _ _ _ _=>False)) :
  codeAny (model prog w) callerA (.call (.ref fa) ⟨[.ref scr],[]⟩) (GoodWG c cl mean' args B) B:=by
 obtain ⟨a,pm,code,doc,h1,F⟩:=H.fn T.nolimit g
 rw [hfa] at h1;cases h1
 obtain ⟨mc,⟨o,_,_,ho,_⟩,_⟩:=T.nodigits
 have hA:AOk 51 callerA:=⟨rfl,by decide,by decide⟩
 refine codeAny_mono (C_fn_code (X:=fun _ _ _ _=>False) (xs:=[.raw (.ref scr)]) (Q:=fun x _=>x=.bool true) F rfl hA.room (fun L=>h _ pm code doc L fa hA.deeper) [] B [.ref scr] (st_nil ho) ⟨[],rfl,fun _ h=>nomatch h⟩ (Vals.cons (.raw_ _) .nil)) fun r s' hr'=>?_
 match r,hr' with
 | .ok (.ret v),⟨φ',σ',t,G',x,hx,hx'⟩ =>
  subst hx'
  obtain rfl:=hx.of_bool
  exact ⟨.inl ⟨.bool true,.bool true,[],rfl,hr,hrd _,hp,fun _=>⟨.nil,fun _ h=>nomatch h⟩⟩,.of_keep G'.base,G'.os,.of_eq (G'.gens.trans hg)⟩
 | .error e,⟨_,_,_,_,hf⟩=>exact hf.elim
theorem gc_str {x y:Str} (T:Top p loose mean mg mb B.heap) (h:valOf p x=some (.str y)):GC B mg x (.str y):=by
 obtain ⟨v,h1,h2⟩:=T.const x _ h
 refine ⟨T.g,v,h1,?_⟩
 have:=h2 B.heap
 cases this
 exact .str_ _ _
theorem gc_int {x:Str} {n:Int} (T:Top p loose mean mg mb B.heap) (h:valOf p x=some (.int n)):GC B mg x (.int n):=by
 obtain ⟨v,h1,h2⟩:=T.const x _ h
 refine ⟨T.g,v,h1,?_⟩
 have:=h2 B.heap
 cases this
 exact .int_ _ _
end
end Mine
namespace Mine
open PySem PySem.W PySem.Calls PyProof.Rows PySem.Challenge
theorem An {a b:Nat} {q:Prop} (h:q) (k:Nat.ble a b=true:=by kernel_rfl!):a≤b∧q:=⟨Nat.le_of_ble_eq_true k,h⟩
section
variable {prog:Program} {w:World} {B:Shared} {mg mb:Str→Option Value} {scr:Addr} {nums:List Int} {K:Frag}
noncomputable def isL (c:Nat):Bool:=decide (97≤c∧c≤122)
noncomputable def isNameS (s:Str):Bool:=decide (1≤s.length∧s.length≤8) && s.cps.toList.all isL
noncomputable def letters:Str:=Str.ofString "abcdefghijklmnopqrstuvwxyz"
theorem letters_list:letters.cps.toList=List.range' 97 26:=by decide +kernel
theorem in_letters (x:Str) (i:Nat):inS letters (signAt x i)=isL (x.cps.getD i 0):=by
 unfold signAt isL
 rw [inS_one,letters_list]
 congr 1
 simp only [List.mem_range'_1,eq_iff_iff]
 (exact qFY)
theorem take_all_succ (x:Str) (i:Nat) (hi:i < x.cps.size):(x.cps.toList.take (i+1)).all isL=((x.cps.toList.take i).all isL && isL (x.cps.getD i 0)):=by
 rw [List.take_add_one,List.all_append]
 have:x.cps.toList[i]?=some (x.cps.getD i 0):=by simp [Array.getD_eq_getD_getElem?,hi]
 rw [this]
 simp
noncomputable abbrev P_is_name:List V→List AObj→(V→List AObj→Prop)→XT→Prop:=(fun xs σ Q X=>(∃ s,xs=[.str s]∧s.length < 10 ^ 9∧Q (.bool (isNameS s)) σ)∨(∃ x,xs=[x]∧NonStr σ x∧Q (.bool false) σ))
theorem good_is_name:Good (dr pw_uf050040_08 10) ["thing"] :=
 ⟨fun pm code doc vals h=>(by obtain ⟨a,rfl⟩:=len_1 h;rfl),by decide +kernel,by decide +kernel,by decide +kernel,rfl,rfl,rfl⟩
theorem cf_is_name (gl:Gl B mg mb) (bl:Blt B mg mb) (S:Scr B scr nums) (H:HasF B mg (dr pw_uf050040_08 10)) (g_L:GC B mg "LETTERS" (.str letters)) :
  CF prog w B mg "is_name" 1 P_is_name:=by
 refine CF_of gl H good_is_name ?_
 rintro A pm code doc L a₀ _ σ Q X hA (⟨x,rfl,hx,q⟩ | ⟨x,rfl,hx,q⟩)
 all_goals refine ⟨rfl,?_⟩
 ·change WX _ _ _ _ _ (_ :: _) ((_,_) :: []) _ _ _
  refine X_ifs ?_
  with_reducible refine T_bool (Ts_or (T_not (T_value (E_bi bl.isinstance_ (.builtin _) (Ec (E_nm (Lh (Ec (E_nm (Lt (LQ_nil (N_bi bl.str_ (En (isi_str (isi_str_str) (T_b (iN (Ts_or (T_not ?_))))))))))))))))))
  refine T_as (decide (1≤x.length∧x.length≤8)) ?_ ?_
  ·refine T_cmp2 ?_
   with_reducible refine E_int (E_bi bl.len_ (.builtin _) (Ec (E_nm (Lh (En ?_)))))
   refine C_len_str (by exact qFg hx) ?_
   with_reducible refine O_le (T_b ?_)
   refine iteD (fun h=>?_) (fun h=>?_)
   ·with_reducible refine E_int (O_le (T_b ?_))
    exact ⟨by congr 1;simp;exact qG8 h,rfl⟩
   ·skip
    exact ⟨by symm;simp;omega,rfl⟩
  unfold isNameS at q
  refine iteDn (fun h=>?_) (fun h=>?_)
  ·with_reducible refine iteT (X_ret (E_bool (sq_ret ?_)))
   refine R_all ?_
   simpa [h] using q
  ·with_reducible refine Ts_or_nil (iteF (X_nil (sq_next ?_)))
   refine X_fors ?_
   with_reducible refine E_nm (Lh ?_)
   refine ForG.mk (ι:=Unit) (fun i _=>(x.cps.toList.take i).all isL=true) (fun _ _=>[("thing",.str x)]) (fun _ _=>σ) (It_str hA.handled) () (by simp) rfl trivial (by with_reducible (refine Sub.c ?_;refine Lh ?_;refine ⟨rfl,?_⟩;exact Sub.nil)) ?_ ?_
   ·rintro i ⟨⟩ hi hD -
    refine X_ifs ?_
    with_reducible refine T_cmp1 (E_nm (Lh (E_nm (Lt (Lt (LQ_nil (N_gc ‹_› ?_)))))))
    refine O_notins ?_
    with_reducible refine T_b ?_
    rw [in_letters]
    refine iteB (fun hl=>?_) (fun hl=>?_)
    ·with_reducible refine X_ret (E_bool (sq_ret (TJ_ret (sq_ret ?_))))
     refine R_all ?_
     have:x.cps.toList.all isL=false:=by
      rw [List.all_eq_false]
      exact ⟨x.cps.getD i 0,by simp [Array.getD_eq_getD_getElem?,hi],by simpa using hl⟩
     simpa [this] using q
    ·with_reducible refine X_nil (sq_next (X_nil ?_))
     exact TJ_next () (by rw [take_all_succ x i hi,hD];simpa using hl) rfl trivial (by with_reducible (refine Sub.c (Lt (Lh ⟨rfl,?_⟩));exact Sub.nil))
   ·rintro ⟨⟩ hD -
    with_reducible refine X_ret (E_bool ?_)
    refine R_all ?_
    have e:x.cps.toList.take x.cps.size=x.cps.toList:=List.take_of_length_le (by simp)
    rw [e] at hD
    simpa [h,hD] using q
 ·change WX _ _ _ _ _ (_ :: _) ((_,_) :: []) _ _ _
  refine X_ifs ?_
  with_reducible refine T_bool (Ts_or (T_not (T_value (E_bi bl.isinstance_ (.builtin _) (Ec (E_nm (Lh (Ec (E_nm (Lt (LQ_nil (N_bi bl.str_ (En ?_)))))))))))))
  refine isi_non hx ?_
  with_reducible refine T_b (iY (iteT (X_ret (E_bool (sq_ret ?_)))))
  exact R_all q
noncomputable abbrev P_is_amount:List V→List AObj→(V→List AObj→Prop)→XT→Prop:=(fun xs σ Q X=>(∃ n,xs=[.int n]∧Q (.bool (decide (1≤n∧n≤1000000000))) σ)∨(∃ x,xs=[x]∧NonInt σ x∧Q (.bool false) σ))
theorem good_is_amount:Good (dr pw_uf050040_08 11) ["thing"] :=
 ⟨fun pm code doc vals h=>(by obtain ⟨a,rfl⟩:=len_1 h;rfl),by decide +kernel,by decide +kernel,by decide +kernel,rfl,rfl,rfl⟩
theorem cf_is_amount (gl:Gl B mg mb) (bl:Blt B mg mb) (S:Scr B scr nums) (H:HasF B mg (dr pw_uf050040_08 11)) (g_G:GC B mg "GREATEST" (.int 1000000000)) :
  CF prog w B mg "is_amount" 1 P_is_amount:=by
 refine CF_of gl H good_is_amount ?_
 rintro A pm code doc L a₀ _ σ Q X hA (⟨n,rfl,q⟩ | ⟨x,rfl,(⟨b,rfl⟩ | hx),q⟩)
 all_goals refine ⟨rfl,?_⟩
 ·change WX _ _ _ _ _ (_ :: _) ((_,_) :: []) _ _ _
  with_reducible refine X_ret ?_
  refine E_boolop ?_
  with_reducible refine Bo_and (E_bi bl.isinstance_ (.builtin _) (Ec (E_nm (Lh (Ec (E_nm (Lt (LQ_nil (N_bi bl.int_ (En (isi_int (isi_int_int) (T_b (iteT (Bo_and (E_un (E_bi bl.isinstance_ (.builtin _) (Ec (E_nm (Lh (Ec (E_nm (Lt (LQ_nil (N_bi bl.bool_ (En (isi_int (isi_int_bool) (O_not (T_b (iY (Bo_one ?_))))))))))))))))))))))))))))))
  refine E_cmp2 ?_
  with_reducible refine E_int (E_nm (Lh (O_le (T_b ?_))))
  refine iteD (fun h=>?_) (fun h=>?_)
  ·with_reducible refine E_nm (Lt (LQ_nil (N_gc ‹_› (O_le ?_))))
   refine R_all ?_
   simpa [h] using q
  ·refine R_all ?_
   simpa [h] using q
 ·change WX _ _ _ _ _ (_ :: _) ((_,_) :: []) _ _ _
  with_reducible refine X_ret ?_
  refine E_boolop ?_
  with_reducible refine Bo_and (E_bi bl.isinstance_ (.builtin _) (Ec (E_nm (Lh (Ec (E_nm (Lt (LQ_nil (N_bi bl.int_ (En (isi_bool (isi_bool_int) (T_b (iteT (Bo_and (E_un (E_bi bl.isinstance_ (.builtin _) (Ec (E_nm (Lh (Ec (E_nm (Lt (LQ_nil (N_bi bl.bool_ (En (isi_bool (isi_bool_bool) (O_not (T_b (iN ?_)))))))))))))))))))))))))))))
  exact R_all q
 ·change WX _ _ _ _ _ (_ :: _) ((_,_) :: []) _ _ _
  with_reducible refine X_ret ?_
  refine E_boolop ?_
  with_reducible refine Bo_and (E_bi bl.isinstance_ (.builtin _) (Ec (E_nm (Lh (Ec (E_nm (Lt (LQ_nil (N_bi bl.int_ (En ?_))))))))))
  refine isi_non hx ?_
  with_reducible refine T_b (iteF ?_)
  exact R_all q
noncomputable abbrev P_is_part:List V→List AObj→(V→List AObj→Prop)→XT→Prop:=(fun xs σ Q X=>(∃ n,xs=[.int n]∧Q (.bool (decide (0≤n∧n < 10 ^ 60))) σ)∨(∃ x,xs=[x]∧NonInt σ x∧Q (.bool false) σ))
theorem good_is_part:Good (dr pw_uf050040_08 18) ["thing"] :=
 ⟨fun pm code doc vals h=>(by obtain ⟨a,rfl⟩:=len_1 h;rfl),by decide +kernel,by decide +kernel,by decide +kernel,rfl,rfl,rfl⟩
theorem cf_is_part (gl:Gl B mg mb) (bl:Blt B mg mb) (S:Scr B scr nums) (H:HasF B mg (dr pw_uf050040_08 18)) :
  CF prog w B mg "is_part" 1 P_is_part:=by
 refine CF_of gl H good_is_part ?_
 rintro A pm code doc L a₀ _ σ Q X hA (⟨n,rfl,q⟩ | ⟨x,rfl,(⟨b,rfl⟩ | hx),q⟩)
 all_goals refine ⟨rfl,?_⟩
 ·change WX _ _ _ _ _ (_ :: _) ((_,_) :: []) _ _ _
  with_reducible refine X_ret ?_
  refine E_boolop ?_
  with_reducible refine Bo_and (E_bi bl.isinstance_ (.builtin _) (Ec (E_nm (Lh (Ec (E_nm (Lt (LQ_nil (N_bi bl.int_ (En (isi_int (isi_int_int) (T_b (iteT (Bo_and (E_un (E_bi bl.isinstance_ (.builtin _) (Ec (E_nm (Lh (Ec (E_nm (Lt (LQ_nil (N_bi bl.bool_ (En (isi_int (isi_int_bool) (O_not (T_b (iY (Bo_one ?_))))))))))))))))))))))))))))))
  refine E_cmp2 ?_
  with_reducible refine E_int (E_nm (Lh (O_le (T_b ?_))))
  refine iteD (fun h=>?_) (fun h=>?_)
  ·with_reducible refine E_bin (E_int (E_int (O_pow60 (O_lt ?_))))
   refine R_all ?_
   simpa only [h,true_and] using q
  ·refine R_all ?_
   simpa only [h,false_and] using q
 ·change WX _ _ _ _ _ (_ :: _) ((_,_) :: []) _ _ _
  with_reducible refine X_ret ?_
  refine E_boolop ?_
  with_reducible refine Bo_and (E_bi bl.isinstance_ (.builtin _) (Ec (E_nm (Lh (Ec (E_nm (Lt (LQ_nil (N_bi bl.int_ (En (isi_bool (isi_bool_int) (T_b (iteT (Bo_and (E_un (E_bi bl.isinstance_ (.builtin _) (Ec (E_nm (Lh (Ec (E_nm (Lt (LQ_nil (N_bi bl.bool_ (En (isi_bool (isi_bool_bool) (O_not (T_b (iN ?_)))))))))))))))))))))))))))))
  exact R_all q
 ·change WX _ _ _ _ _ (_ :: _) ((_,_) :: []) _ _ _
  with_reducible refine X_ret ?_
  refine E_boolop ?_
  with_reducible refine Bo_and (E_bi bl.isinstance_ (.builtin _) (Ec (E_nm (Lh (Ec (E_nm (Lt (LQ_nil (N_bi bl.int_ (En ?_))))))))))
  refine isi_non hx ?_
  with_reducible refine T_b (iteF ?_)
  exact R_all q
noncomputable def shareB:V→Bool
 | .tup [.int a,.int b]=>decide ((0≤a∧a < 10 ^ 60)∧(0≤b∧b < 10 ^ 60)∧0 < a+b)
 | _=>false
inductive ShareR (σ:List AObj):V→Prop
 | good (a b:Int):ShareR σ (.tup [.int a,.int b])
 | left (x y:V):NonInt σ x→ShareR σ (.tup [x,y])
 | right (a:Int) (y:V):NonInt σ y→ShareR σ (.tup [.int a,y])
 | one (x:V):ShareR σ (.tup [x])
 | three (x y z:V):ShareR σ (.tup [x,y,z])
 | non (x:V):NonTup σ x→ShareR σ x
theorem NonInt.map {σ σ':List AObj} {x:V} (f:∀ T,TyV σ x T→TyV σ' x T) (h:NonInt σ x):NonInt σ' x:=h.imp id fun ⟨T,h1,h2⟩=>⟨T,f T h1,h2⟩
theorem ShareR.map {σ σ':List AObj} {x:V} (f:∀ y T,TyV σ y T→TyV σ' y T) (h:ShareR σ x):ShareR σ' x:=by
 cases h with
 | good a b=>exact .good a b
 | left x y h=>exact .left x y (h.map (f x))
 | right a y h=>exact .right a y (h.map (f y))
 | one x=>exact .one x
 | three x y z=>exact .three x y z
 | non x h=>obtain ⟨T,h1,h2⟩:=h;exact .non x ⟨T,f x T h1,h2⟩
theorem nonInt_not {σ:List AObj} {a:Int} (h:NonInt σ (.int a)):False:=by
 rcases h with ⟨b,e⟩ | ⟨T,h1,h2⟩
 ·cases e
 ·cases h1
  have:=h2.2.2.2 rfl
  revert this;decide
theorem shareB_left {σ:List AObj} {x y:V} (h:NonInt σ x):shareB (.tup [x,y])=false:=by
 unfold shareB
 split
 ·rename_i a b e
  cases e
  exact (nonInt_not h).elim
 ·rfl
theorem shareB_right {σ:List AObj} {x y:V} (h:NonInt σ y):shareB (.tup [x,y])=false:=by
 unfold shareB
 split
 ·rename_i a b e
  cases e
  exact (nonInt_not h).elim
 ·rfl
theorem shareB_non {σ:List AObj} {x:V} (h:NonTup σ x):shareB x=false:=by
 unfold shareB
 split
 ·obtain ⟨T,h1,h2⟩:=h
  cases h1
  exact absurd (h2.2.2.2 rfl) (by decide)
 ·rfl
theorem shareB_one (x:V):shareB (.tup [x])=false:=by
 unfold shareB
 split
 ·rename_i e;cases e
 ·rfl
theorem shareB_three (x y z:V):shareB (.tup [x,y,z])=false:=by
 unfold shareB
 split
 ·rename_i e;cases e
 ·rfl
noncomputable abbrev P_is_share:List V→List AObj→(V→List AObj→Prop)→XT→Prop:=(fun xs σ Q X=>∃ x,xs=[x]∧ShareR σ x∧Q (.bool (shareB x)) σ)
theorem good_is_share:Good (dr pw_uf050040_08 19) ["thing"] :=
 ⟨fun pm code doc vals h=>(by obtain ⟨a,rfl⟩:=len_1 h;rfl),by decide +kernel,by decide +kernel,by decide +kernel,rfl,rfl,rfl⟩
theorem cf_is_share (gl:Gl B mg mb) (bl:Blt B mg mb) (S:Scr B scr nums) (H:HasF B mg (dr pw_uf050040_08 19))
  (c_is_part:CF prog w B mg "is_part" 1 P_is_part) :
  CF prog w B mg "is_share" 2 P_is_share:=by
 refine CF_of gl H good_is_share ?_
 rintro A pm code doc L a₀ _ σ Q X hA ⟨x,rfl,hx,q⟩
 all_goals refine ⟨rfl,?_⟩
 cases hx with
 | good a b =>
  change WX _ _ _ _ _ (_ :: _) ((_,_) :: []) _ _ _
  refine X_ifs ?_
  with_reducible refine T_bool (Ts_or (T_not (T_value (E_bi bl.isinstance_ (.builtin _) (Ec (E_nm (Lh (Ec (E_nm (Lt (LQ_nil (N_bi bl.tuple_ (En (isi_tup (isi_tuple_tuple) (T_b (iN (Ts_or (T_cmp1 (E_bi bl.len_ (.builtin _) (Ec (E_nm (Lh (En (C_len_t2 (E_int (O_ne (T_b (iN (Ts_or_nil (iteF (X_nil (sq_next (X_ret ?_)))))))))))))))))))))))))))))))))
  refine E_boolop ?_
  with_reducible refine Bo_and (E_cf ‹_› (hA.le (by decide)) (Ec (E_sub (E_nm (Lh (E_int (S_t0 (En ?_))))))))
  refine .inl ⟨_,rfl,?_⟩
  with_reducible refine T_b ?_
  unfold shareB at q
  refine iteD (fun h=>?_) (fun h=>?_)
  ·with_reducible refine Bo_and (E_cf ‹_› (hA.le (by decide)) (Ec (E_sub (E_nm (Lh (E_int (S_t1 (En ?_))))))))
   refine .inl ⟨_,rfl,?_⟩
   with_reducible refine T_b ?_
   refine iteD (fun h'=>?_) (fun h'=>?_)
   ·with_reducible refine Bo_one (E_cmp1 (E_bin (E_sub (E_nm (Lh (E_int (S_t0 (E_sub (E_nm (Lh (E_int (S_t1 (O_add (E_int (O_gt ?_)))))))))))))))
    refine R_all ?_
    simpa only [h,h',true_and] using q
   ·refine R_all ?_
    simpa only [h,h',true_and,false_and] using q
  ·refine R_all ?_
   simpa only [h,false_and] using q
 | left x y h =>
  change WX _ _ _ _ _ (_ :: _) ((_,_) :: []) _ _ _
  rw [shareB_left h] at q
  refine X_ifs ?_
  with_reducible refine T_bool (Ts_or (T_not (T_value (E_bi bl.isinstance_ (.builtin _) (Ec (E_nm (Lh (Ec (E_nm (Lt (LQ_nil (N_bi bl.tuple_ (En (isi_tup (isi_tuple_tuple) (T_b (iN (Ts_or (T_cmp1 (E_bi bl.len_ (.builtin _) (Ec (E_nm (Lh (En (C_len_t2 (E_int (O_ne (T_b (iN (Ts_or_nil (iteF (X_nil (sq_next (X_ret ?_)))))))))))))))))))))))))))))))))
  refine E_boolop ?_
  with_reducible refine Bo_and (E_cf ‹_› (hA.le (by decide)) (Ec (E_sub (E_nm (Lh (E_int (S_t0 (En ?_))))))))
  refine .inr ⟨_,rfl,h,?_⟩
  with_reducible refine T_b (iteF ?_)
  exact R_all q
 | right a y h =>
  change WX _ _ _ _ _ (_ :: _) ((_,_) :: []) _ _ _
  rw [shareB_right h] at q
  refine X_ifs ?_
  with_reducible refine T_bool (Ts_or (T_not (T_value (E_bi bl.isinstance_ (.builtin _) (Ec (E_nm (Lh (Ec (E_nm (Lt (LQ_nil (N_bi bl.tuple_ (En (isi_tup (isi_tuple_tuple) (T_b (iN (Ts_or (T_cmp1 (E_bi bl.len_ (.builtin _) (Ec (E_nm (Lh (En (C_len_t2 (E_int (O_ne (T_b (iN (Ts_or_nil (iteF (X_nil (sq_next (X_ret ?_)))))))))))))))))))))))))))))))))
  refine E_boolop ?_
  with_reducible refine Bo_and (E_cf ‹_› (hA.le (by decide)) (Ec (E_sub (E_nm (Lh (E_int (S_t0 (En ?_))))))))
  refine .inl ⟨_,rfl,?_⟩
  with_reducible refine T_b ?_
  refine iteD (fun h'=>?_) (fun h'=>?_)
  ·with_reducible refine Bo_and (E_cf ‹_› (hA.le (by decide)) (Ec (E_sub (E_nm (Lh (E_int (S_t1 (En ?_))))))))
   refine .inr ⟨_,rfl,h,?_⟩
   with_reducible refine T_b (iteF ?_)
   exact R_all q
  ·refine R_all ?_
   rw [decide_eq_false h']
   exact q
 | one x =>
  change WX _ _ _ _ _ (_ :: _) ((_,_) :: []) _ _ _
  rw [shareB_one] at q
  refine X_ifs ?_
  with_reducible refine T_bool (Ts_or (T_not (T_value (E_bi bl.isinstance_ (.builtin _) (Ec (E_nm (Lh (Ec (E_nm (Lt (LQ_nil (N_bi bl.tuple_ (En (isi_tup (isi_tuple_tuple) (T_b (iN (Ts_or (T_cmp1 (E_bi bl.len_ (.builtin _) (Ec (E_nm (Lh (En (C_len_t1 (E_int (O_ne (T_b (iY (iteT (X_ret (E_bool (sq_ret ?_))))))))))))))))))))))))))))))))
  exact R_all q
 | three x y z =>
  change WX _ _ _ _ _ (_ :: _) ((_,_) :: []) _ _ _
  rw [shareB_three] at q
  refine X_ifs ?_
  with_reducible refine T_bool (Ts_or (T_not (T_value (E_bi bl.isinstance_ (.builtin _) (Ec (E_nm (Lh (Ec (E_nm (Lt (LQ_nil (N_bi bl.tuple_ (En (isi_tup (isi_tuple_tuple) (T_b (iN (Ts_or (T_cmp1 (E_bi bl.len_ (.builtin _) (Ec (E_nm (Lh (En (C_len_t3 (E_int (O_ne (T_b (iY (iteT (X_ret (E_bool (sq_ret ?_))))))))))))))))))))))))))))))))
  exact R_all q
 | non x h =>
  change WX _ _ _ _ _ (_ :: _) ((_,_) :: []) _ _ _
  rw [shareB_non h] at q
  refine X_ifs ?_
  with_reducible refine T_bool (Ts_or (T_not (T_value (E_bi bl.isinstance_ (.builtin _) (Ec (E_nm (Lh (Ec (E_nm (Lt (LQ_nil (N_bi bl.tuple_ (En ?_)))))))))))))
  refine isi_non h ?_
  with_reducible refine T_b (iY (iteT (X_ret (E_bool (sq_ret ?_)))))
  exact R_all q
noncomputable def keyB:Key→Bool
 | .s x=>isNameS x
 | .i _=>false
noncomputable def keyLen:Key→Prop
 | .s x=>x.length < 10 ^ 9
 | .i _=>True
noncomputable def pageB (es:List (Key×V)):Bool:=decide (es.length≤200) && es.all fun p=>keyB p.1 && shareB p.2
theorem all_take_succ {α:Type} (f:α→Bool) (l:List α) (i:Nat) (hi:i < l.length):(l.take (i+1)).all f=((l.take i).all f && f l[i]):=by
 rw [List.take_add_one,List.all_append,List.getElem?_eq_getElem hi]
 simp
noncomputable abbrev P_is_page:List V→List AObj→(V→List AObj→Prop)→XT→Prop:=(fun xs σ Q X=>(∃ k es e,xs=[.ref k]∧σ[k]?=some (.dict es e)∧es.length≤100000∧(∀ p∈es,keyLen p.1∧ShareR σ p.2)∧Q (.bool (pageB es)) σ)∨(∃ x,xs=[x]∧NonDict σ x∧Q (.bool false) σ))
theorem good_is_page:Good (dr pw_uf050040_08 20) ["thing"] :=
 ⟨fun pm code doc vals h=>(by obtain ⟨a,rfl⟩:=len_1 h;rfl),by decide +kernel,by decide +kernel,by decide +kernel,rfl,rfl,rfl⟩
theorem cf_is_page (gl:Gl B mg mb) (bl:Blt B mg mb) (S:Scr B scr nums) (H:HasF B mg (dr pw_uf050040_08 20)) (g_M:GC B mg "MOST_NAMES" (.int 200))
  (c_is_name:CF prog w B mg "is_name" 1 P_is_name)
  (c_is_share:CF prog w B mg "is_share" 2 P_is_share) :
  CF prog w B mg "is_page" 3 P_is_page:=by
 refine CF_of gl H good_is_page ?_
 rintro A pm code doc L a₀ _ σ Q X hA (⟨k,es,e,rfl,hk,hlen,hes,q⟩ | ⟨x,rfl,hx,q⟩)
 all_goals refine ⟨rfl,?_⟩
 ·change WX _ _ _ _ _ (_ :: _) ((_,_) :: []) _ _ _
  refine X_keys hk fun hnd=>?_
  refine X_ifs ?_
  with_reducible refine T_bool (Ts_or (T_not (T_value (E_bi bl.isinstance_ (.builtin _) (Ec (E_nm (Lh (Ec (E_nm (Lt (LQ_nil (N_bi bl.dict_ (En ?_)))))))))))))
  refine isi_dict hk isi_dict_dict ?_
  with_reducible refine T_b (iN (Ts_or (T_cmp1 (E_bi bl.len_ (.builtin _) (Ec (E_nm (Lh (En ?_))))))))
  refine C_len_dict hk (by exact qFe hlen) ?_
  with_reducible refine E_nm (Lt (LQ_nil (N_gc ‹_› (O_gt (T_b ?_)))))
  unfold pageB at q
  refine iteD (fun h=>?_) (fun h=>?_)
  ·with_reducible refine iteT (X_ret (E_bool (sq_ret ?_)))
   refine R_all ?_
   rw [decide_eq_false (by exact qGL h)] at q
   exact q
  ·with_reducible refine Ts_or_nil (iteF (X_nil (sq_next ?_)))
   rw [decide_eq_true (by exact qGs h),Bool.true_and] at q
   refine X_ford (ι:=Unit) (fun i _=>(es.take i).all (fun p=>keyB p.1 && shareB p.2)=true) (fun _ _=>[("thing",.ref k)]) (fun _ _=>σ) () hA.handled hk (fun ep=>?_) (by simp) rfl (by with_reducible (refine Sub.c ?_;refine Lh ?_;refine ⟨rfl,?_⟩;exact Sub.nil)) (fun _ _ _=>hk) ?_ ?_
   ·with_reducible refine E_nm (Lh ⟨rfl,?_⟩)
    first | exact ⟨rfl,rfl⟩ | rfl
   ·rintro ep i ⟨⟩ hi hD
    have hmem:es[i]∈es:=List.getElem_mem hi
    obtain ⟨hkl,hsh⟩:=hes _ hmem
    have hall:=all_take_succ (fun p:Key×V=>keyB p.1 && shareB p.2) es i hi
    rw [hD,Bool.true_and] at hall
    have bad:(keyB es[i].1 && shareB es[i].2)=false→es.all (fun p=>keyB p.1 && shareB p.2)=false:=fun hb=>by
     rw [List.all_eq_false];exact ⟨_,hmem,by rw [hb];decide⟩
    have hat:=at_get hnd hi
    rw [keyAt_get hi]
    generalize es[i]=p at *
    obtain ⟨key,v⟩:=p
    dsimp only at *
    refine X_ifs ?_
    refine T_as (!(keyB key && shareB v)) ?_ ?_
    ·have hsh':ShareR (pin σ k es ep) v:=hsh.map fun y T h=>h.pin hk
     cases key with
     | s x =>
      with_reducible refine T_bool (Ts_or (T_not (T_value (E_cf ‹_› (hA.le (by decide)) (Ec (E_nm (Lh (En ?_))))))))
      refine .inl ⟨x,rfl,hkl,?_⟩
      with_reducible refine T_b ?_
      refine iteB (fun hb=>?_) (fun hb=>?_)
      ·have e:isNameS x=false:=by simpa using hb
       exact ⟨by simp [keyB,e],rfl⟩
      ·have e:isNameS x=true:=by simpa using hb
       with_reducible refine Ts_or (T_not (T_value (E_cf ‹_› (hA.le (by decide)) (Ec (E_sub (E_nm (Lt (Lh (E_nm (Lh ?_))))))))))
       refine S_dict (key:=.s x) (pin_at hk) hat ?_
       with_reducible refine En ⟨_,rfl,(And.intro (by first | omega | with_unfolding_all exact Nat.le_of_ble_eq_true rfl) (T_b ?_))⟩
       try (refine ⟨hsh',?_⟩;skip)
       refine iteB (fun hb'=>?_) (fun hb'=>?_)
       ·have e':shareB v=false:=by simpa using hb'
        exact ⟨by simp [e'],rfl⟩
       ·have e':shareB v=true:=by simpa using hb'
        with_reducible refine Ts_or_nil ?_
        exact ⟨by simp [keyB,e,e'],rfl⟩
     | i n =>
      with_reducible refine T_bool (Ts_or (T_not (T_value (E_cf ‹_› (hA.le (by decide)) (Ec (E_nm (Lh (En ?_))))))))
      refine .inr ⟨_,rfl,⟨_,.int _,isi_int_str⟩,?_⟩
      with_reducible refine T_b (iY ⟨rfl,?_⟩)
      first | rfl | exact ⟨by simp [keyB],rfl⟩
    refine iteB (fun hb=>?_) (fun hb=>?_)
    ·with_reducible refine X_ret (E_bool (sq_ret ?_))
     refine TD_ret (pin_at hk) ?_
     rw [pin_set hk]
     with_reducible refine sq_ret ?_
     rw [bad ((Bool.not_eq_true' _).mp hb)] at q
     exact R_all q
    ·with_reducible refine X_nil (sq_next (X_nil ?_))
     exact TD_next () (by rw [hall];simpa using hb) rfl (by with_reducible (refine Sub.c (Lt (Lh ⟨rfl,?_⟩));exact Sub.nil))
   ·rintro ⟨⟩ hD
    with_reducible refine X_ret (E_bool ?_)
    refine R_all ?_
    rw [List.take_length] at hD
    rw [hD] at q
    exact q
 ·change WX _ _ _ _ _ (_ :: _) ((_,_) :: []) _ _ _
  refine X_ifs ?_
  with_reducible refine T_bool (Ts_or (T_not (T_value (E_bi bl.isinstance_ (.builtin _) (Ec (E_nm (Lh (Ec (E_nm (Lt (LQ_nil (N_bi bl.dict_ (En ?_)))))))))))))
  refine isi_non hx ?_
  with_reducible refine T_b (iY (iteT (X_ret (E_bool (sq_ret ?_)))))
  exact R_all q
inductive P_greater (xs:List V) (σ:List AObj) (Q:V→List AObj→Prop) (X:XT):Prop
 | mk:∀ a b c d,(xs=[.tup [.int a,.int b],.tup [.int c,.int d]])→(Q (.tup [.int (max a c),.int (max b d)]) σ)→P_greater xs σ Q X
theorem good_greater:Good (dr pw_uf050040_08 13) ["one","other"] :=
 ⟨fun pm code doc vals h=>(by obtain ⟨a,b,rfl⟩:=len_2 h;rfl),by decide +kernel,by decide +kernel,by decide +kernel,rfl,rfl,rfl⟩
theorem cf_greater (gl:Gl B mg mb) (bl:Blt B mg mb) (S:Scr B scr nums) (H:HasF B mg (dr pw_uf050040_08 13)) :
  CF prog w B mg "greater" 1 P_greater:=by
 refine CF_of gl H good_greater ?_
 rintro A pm code doc L a₀ _ σ Q X hA ⟨a,b,c,d,rfl,q⟩
 refine ⟨rfl,?_⟩
 change WX _ _ _ _ _ (_ :: _) ((_,_) :: (_,_) :: []) _ _ _
 with_reducible refine X_ret (E_tuple (Ec (E_bi bl.max_ (.builtin _) (Ec (E_sub (E_nm (Lh (E_int (S_t0 (Ec (E_sub (E_nm (Lt (Lh (E_int (S_t0 (En (C_max hA.handled (Ec (E_bi bl.max_ (.builtin _) (Ec (E_sub (E_nm (Lh (E_int (S_t1 (Ec (E_sub (E_nm (Lt (Lh (E_int (S_t1 (En (C_max hA.handled (En (An ?_)))))))))))))))))))))))))))))))))))))
 exact R_all q
inductive P_reaches (xs:List V) (σ:List AObj) (Q:V→List AObj→Prop) (X:XT):Prop
 | mk:∀ a b c d,(xs=[.tup [.int a,.int b],.tup [.int c,.int d]])→(Q (.bool (decide (c≤a∧d≤b))) σ)→P_reaches xs σ Q X
theorem good_reaches:Good (dr pw_uf050040_08 14) ["one","other"] :=
 ⟨fun pm code doc vals h=>(by obtain ⟨a,b,rfl⟩:=len_2 h;rfl),by decide +kernel,by decide +kernel,by decide +kernel,rfl,rfl,rfl⟩
theorem cf_reaches (gl:Gl B mg mb) (bl:Blt B mg mb) (S:Scr B scr nums) (H:HasF B mg (dr pw_uf050040_08 14)) :
  CF prog w B mg "reaches" 1 P_reaches:=by
 refine CF_of gl H good_reaches ?_
 rintro A pm code doc L a₀ _ σ Q X hA ⟨a,b,c,d,rfl,q⟩
 refine ⟨rfl,?_⟩
 change WX _ _ _ _ _ (_ :: _) ((_,_) :: (_,_) :: []) _ _ _
 with_reducible refine X_ret ?_
 refine E_boolop ?_
 with_reducible refine Bo_and (E_cmp1 (E_sub (E_nm (Lh (E_int (S_t0 (E_sub (E_nm (Lt (Lh (E_int (S_t0 (O_ge (T_b ?_))))))))))))))
 refine iteD (fun h=>?_) (fun h=>?_)
 ·with_reducible refine Bo_one (E_cmp1 (E_sub (E_nm (Lh (E_int (S_t1 (E_sub (E_nm (Lt (Lh (E_int (S_t1 (O_ge ?_)))))))))))))
  refine R_all ?_
  simpa [h] using q
 ·refine R_all ?_
  simpa [h] using q
noncomputable abbrev P_net:List V→List AObj→(V→List AObj→Prop)→XT→Prop:=(fun xs σ Q X=>∃ a b,xs=[.tup [.int a,.int b]]∧Q (.int (a - b)) σ)
theorem good_net:Good (dr pw_uf050040_08 15) ["share"] :=
 ⟨fun pm code doc vals h=>(by obtain ⟨a,rfl⟩:=len_1 h;rfl),by decide +kernel,by decide +kernel,by decide +kernel,rfl,rfl,rfl⟩
theorem cf_net (gl:Gl B mg mb) (bl:Blt B mg mb) (S:Scr B scr nums) (H:HasF B mg (dr pw_uf050040_08 15)) :
  CF prog w B mg "net" 1 P_net:=by
 refine CF_of gl H good_net ?_
 rintro A pm code doc L a₀ _ σ Q X hA ⟨a,b,rfl,q⟩
 refine ⟨rfl,?_⟩
 change WX _ _ _ _ _ (_ :: _) ((_,_) :: []) _ _ _
 with_reducible refine X_ret (E_bin (E_sub (E_nm (Lh (E_int (S_t0 (E_sub (E_nm (Lh (E_int (S_t1 (O_sub ?_))))))))))))
 exact R_all q
theorem isNameS_len {x:Str} (h:isNameS x=true):1≤x.length∧x.length≤8:=by
 unfold isNameS at h
 simp only [Bool.and_eq_true,decide_eq_true_eq] at h
 exact h.1
theorem isNameS_of {l:List Nat} (h1:1≤l.length) (h2:l.length≤8) (h:∀ c∈l,isL c=true):isNameS ⟨l.toArray⟩=true:=by
 unfold isNameS
 simp only [Str.length,List.size_toArray,Bool.and_eq_true,decide_eq_true_eq,List.all_eq_true]
 exact ⟨⟨h1,h2⟩,h⟩
theorem isNameS_all {x:Str} (h:isNameS x=true):∀ c∈x.cps.toList,isL c=true:=by
 unfold isNameS at h
 simp only [Bool.and_eq_true,List.all_eq_true] at h
 exact h.2
noncomputable abbrev Pg:=List (Str×Int×Int)
noncomputable abbrev shV (x:Int×Int):V:=.tup [.int x.1,.int x.2]
noncomputable def toRow (r:Str×Int×Int):Key×V:=(.s r.1,shV r.2)
noncomputable def pgE (p:Pg):List (Key×V):=p.map toRow
noncomputable def look? (p:Pg) (n:Str):Option (Int×Int):=(p.find? fun r=>r.1=n).map (·.2)
noncomputable def look (p:Pg) (n:Str):Int×Int:=(look? p n).getD (0,0)
noncomputable def names (p:Pg):List Str:=p.map (·.1)
noncomputable def reach (a b:Int×Int):Bool:=decide (b.1≤a.1∧b.2≤a.2)
noncomputable def pput (p:Pg) (n:Str) (v:Int×Int):Pg:=if p.any (fun r=>r.1=n) then p.map (fun r=>if r.1=n then (r.1,v) else r) else p++[(n,v)]
theorem pgE_length (p:Pg):(pgE p).length=p.length:=by simp [pgE]
theorem pgE_keys (p:Pg):(pgE p).map (·.1)=(names p).map Key.s:=by simp [pgE,names,toRow]
theorem at_pg (p:Pg) (n:Str):at? (pgE p) (.s n)=(look? p n).map shV:=by
 unfold at? look? pgE
 induction p with
 | nil=>rfl
 | cons r t ih =>
  by_cases h:r.1=n
  ·simp [toRow,h]
  ·simpa [toRow,h] using ih
theorem at_pgD (p:Pg) (n:Str):(at? (pgE p) (.s n)).getD (.tup [.int 0,.int 0])=shV (look p n):=by
 rw [at_pg];unfold look;cases look? p n <;> rfl
theorem put_pg (p:Pg) (n:Str) (v:Int×Int):put (pgE p) (.s n) (shV v)=pgE (pput p n v):=by
 unfold put pput pgE
 have e:(p.map toRow).any (fun e=>e.1=Key.s n)=p.any (fun r=>r.1=n):=by
  rw [List.any_map];congr 1;funext r;simp [toRow]
 rw [e]
 split
 ·rw [List.map_map,List.map_map];congr 1;funext r
  by_cases h:r.1=n <;> simp [toRow,h]
 ·simp [toRow]
theorem look?_get {p:Pg} (hn:(names p).Nodup) {r:Str×Int×Int} (hr:r∈p):look? p r.1=some r.2:=by
 unfold look?
 induction p with
 | nil=>cases hr
 | cons q t ih =>
  simp only [names,List.map_cons,List.nodup_cons] at hn
  rcases List.mem_cons.mp hr with rfl | h
  ·simp
  ·have hne:q.1≠r.1:=fun e=>hn.1 (e ▸ List.mem_map.mpr ⟨r,h,rfl⟩)
   simpa [hne] using ih hn.2 h
theorem look_get {p:Pg} (hn:(names p).Nodup) {r:Str×Int×Int} (hr:r∈p):look p r.1=r.2:=by unfold look;rw [look?_get hn hr];rfl
theorem look?_mem {p:Pg} {n:Str} (h:n∈names p):∃ v,look? p n=some v∧(n,v)∈p:=by
 unfold look?
 cases e:p.find? (fun r=>decide (r.1=n)) with
 | none =>
  obtain ⟨r,hr,rfl⟩:=List.mem_map.mp h
  have:=List.find?_eq_none.mp e r hr
  simp at this
 | some r =>
  have h1:=List.find?_some e
  have h2:=List.mem_of_find?_eq_some e
  simp only [decide_eq_true_eq] at h1
  exact ⟨r.2,rfl,by rw [← h1];exact h2⟩
theorem look_mem {p:Pg} {n:Str} (h:n∈names p):look? p n=some (look p n)∧(n,look p n)∈p:=by
 obtain ⟨v,h1,h2⟩:=look?_mem h
 have:look p n=v:=by unfold look;rw [h1];rfl
 rw [this];exact ⟨h1,h2⟩
theorem names_nodup {p:Pg} (h:((pgE p).map (·.1)).Nodup):(names p).Nodup:=by
 rw [pgE_keys] at h
 exact (List.pairwise_map.mp h).imp fun hne e=>hne (congrArg Key.s e)
theorem keyAt_pg {p:Pg} {i:Nat} (hi:i < p.length):keyAt (pgE p) i=.str (p[i]).1:=by
 rw [keyAt_get (by rw [pgE_length];exact hi)];simp [pgE,toRow,Key.v]
theorem at_pg_get {p:Pg} (hn:(names p).Nodup) {i:Nat} (hi:i < p.length):at? (pgE p) (.s (p[i]).1)=some (shV (p[i]).2):=by
 rw [at_pg,look?_get hn (List.getElem_mem hi)];rfl
noncomputable def RowOk (r:Str×Int×Int):Prop:=isNameS r.1=true∧0≤r.2.1∧0≤r.2.2∧0 < r.2.1+r.2.2
noncomputable def PgOk (p:Pg):Prop:=(names p).Nodup∧∀ r∈p,RowOk r
theorem pput_names (p:Pg) (n:Str) (v:Int×Int):names (pput p n v)=if n∈names p then names p else names p++[n]:=by
 unfold pput names
 by_cases h:p.any (fun r=>r.1=n)=true
 ·rw [if_pos h,if_pos ?_]
  ·rw [List.map_map];congr 1;funext r;simp only [Function.comp];split <;> rfl
  ·obtain ⟨r,hr,e⟩:=List.any_eq_true.mp h
   exact List.mem_map.mpr ⟨r,hr,by simpa using e⟩
 ·rw [if_neg h,if_neg ?_]
  ·simp
  ·intro hm
   obtain ⟨r,hr,e⟩:=List.mem_map.mp hm
   exact h (List.any_eq_true.mpr ⟨r,hr,by simpa using e⟩)
theorem pput_ok {p:Pg} {n:Str} {v:Int×Int} (h:PgOk p) (hr:RowOk (n,v)):PgOk (pput p n v):=by
 refine ⟨?_,fun r hm=>?_⟩
 ·rw [pput_names]
  split
  ·exact h.1
  ·rename_i hn
   rw [List.nodup_append]
   exact ⟨h.1,by simp,fun a ha b hb=>by rw [List.mem_singleton.mp hb];exact fun e=>hn (e ▸ ha)⟩
 ·unfold pput at hm
  split at hm
  ·obtain ⟨q,hq,rfl⟩:=List.mem_map.mp hm
   split
   ·rename_i e;rw [e];exact hr
   ·exact h.2 q hq
  ·rcases List.mem_append.mp hm with hm | hm
   ·exact h.2 r hm
   ·rw [List.mem_singleton.mp hm];exact hr
theorem pput_len (p:Pg) (n:Str) (v:Int×Int):(pput p n v).length≤p.length+1:=by
 unfold pput;split <;> simp
theorem PgOk.nil:PgOk []:=⟨List.nodup_nil,fun _ h=>nomatch h⟩
theorem pgE_lt (p:Pg) (n:Nat):(AObj.dict (pgE p) none).lt n:=by
 simp only [AObj.lt]
 intro q hq
 obtain ⟨r,_,rfl⟩:=List.mem_map.mp hq
 simp [toRow,V.lt,Vs.lt]
theorem isNameS_cps {x:Str} (h:isNameS x=true):PyData.strOk x=true:=by
 have:=isNameS_all h
 unfold PyData.strOk
 rw [Array.all_eq_true_iff_forall_mem]
 intro c hc
 have h2:=this c (by simpa using hc)
 unfold isL at h2
 simp only [decide_eq_true_eq] at h2 ⊢
 (exact qCj h2)
inductive P_share_of (xs:List V) (σ:List AObj) (Q:V→List AObj→Prop) (X:XT):Prop
 | mk:∀ k p e n,(σ[k]?=some (.dict (pgE p) e))→(xs=[.ref k,.str n])→(Q (shV (look p n)) σ)→P_share_of xs σ Q X
theorem good_share_of:Good (dr pw_uf050040_08 21) ["page","name"] :=
 ⟨fun pm code doc vals h=>(by obtain ⟨a,b,rfl⟩:=len_2 h;rfl),by decide +kernel,by decide +kernel,by decide +kernel,rfl,rfl,rfl⟩
theorem cf_share_of (gl:Gl B mg mb) (bl:Blt B mg mb) (S:Scr B scr nums) (H:HasF B mg (dr pw_uf050040_08 21)) :
  CF prog w B mg "share_of" 1 P_share_of:=by
 refine CF_of gl H good_share_of ?_
 rintro A pm code doc L a₀ _ σ Q X hA ⟨k,p,e,n,hk,rfl,q⟩
 refine ⟨rfl,?_⟩
 change WX _ _ _ _ _ (_ :: _) ((_,_) :: (_,_) :: []) _ _ _
 with_reducible refine X_ret (E_mcall (name:=Str.ofString "get") (id:="dict.get") (E_nm (Lh ?_)))
 refine ⟨GM_dict hk F.slot_dict_get F.type_dict_get,?_⟩
 with_reducible refine Ec (E_nm (Lt (Lh (Ec (E_tuple (Ec (E_int (Ec (E_int (En (An (En ?_))))))))))))
 refine C_get_s hk ?_
 rw [at_pgD]
 exact R_all q
noncomputable def lackB (p:Pg) (r:Str×Int×Int):Bool:=!reach (look p r.1) r.2
noncomputable def sortedP (r:Pg):Pg:=(srt (names r)).map fun n=>(n,look r n)
noncomputable def lacks (p r:Pg):Pg:=(sortedP r).filter (lackB p)
theorem srt_mem {l:List Str} {x:Str}:x∈srt l↔x∈l:=(srt_perm l).mem_iff
theorem srt_nodup {l:List Str} (h:l.Nodup):(srt l).Nodup:=(srt_perm l).nodup_iff.mpr h
theorem names_sortedP (r:Pg):names (sortedP r)=srt (names r):=by unfold names sortedP;rw [List.map_map];exact List.map_id'' (fun _=>rfl) _
theorem sortedP_mem {r:Pg} (hn:(names r).Nodup) {x:Str×Int×Int}:x∈sortedP r↔x∈r:=by
 constructor
 ·intro h
  obtain ⟨n,hm,rfl⟩:=List.mem_map.mp h
  exact (look_mem (srt_mem.mp hm)).2
 ·intro h
  refine List.mem_map.mpr ⟨x.1,srt_mem.mpr (List.mem_map.mpr ⟨x,h,rfl⟩),?_⟩
  rw [look_get hn h]
theorem sub_pairwise {l m:List Str} (h:l.Sublist (srt m)):l.Pairwise (fun a b=>leS a b=true):=(srt_sorted m).sublist h
theorem filter_names (f:Str×Int×Int→Bool) (p:Pg):(names (p.filter f)).Sublist (names p):=List.Sublist.map _ List.filter_sublist
theorem nodup_perm {l m:List Str} (h1:l.Nodup) (h2:m.Nodup) (h:∀ x,x∈l↔x∈m):l.Perm m:=(List.perm_ext_iff_of_nodup h1 h2).mpr h
theorem lacks_names {p r:Pg} (hn:(names r).Nodup):names (lacks p r)=srt (names (r.filter (lackB p))):=by
 refine sorted_unique ?_ (sub_pairwise (m:=names r) ?_) (srt_sorted _)
 ·refine (nodup_perm ?_ ?_ fun x=>?_).trans (srt_perm _).symm
  ·have h1:=(filter_names (lackB p) (sortedP r)).nodup (by rw [names_sortedP];exact srt_nodup hn)
   exact h1
  ·exact (filter_names (lackB p) r).nodup hn
  ·unfold lacks names
   simp only [List.mem_map,List.mem_filter,sortedP_mem hn]
 ·have:=filter_names (lackB p) (sortedP r)
  rw [names_sortedP] at this
  exact this
theorem lacks_mem {p r:Pg} (hn:(names r).Nodup) {x:Str×Int×Int} (h:x∈lacks p r):x∈r.filter (lackB p):=by
 unfold lacks at h
 rw [List.mem_filter] at h ⊢
 exact ⟨(sortedP_mem hn).mp h.1,h.2⟩
theorem lacks_len {p r:Pg} (hn:(names r).Nodup):(lacks p r).length≤r.length:=by
 have h1:=List.length_filter_le (lackB p) (sortedP r)
 have h2:(sortedP r).length=r.length:=by unfold sortedP;rw [List.length_map,(srt_perm _).length_eq];simp [names]
 unfold lacks;(exact qCv h1 h2)
noncomputable def maxS (a b:Int×Int):Int×Int:=(max a.1 b.1,max a.2 b.2)
noncomputable def joins (p r:Pg):Pg:=(srt (onceS (names p++names r))).map fun n=>(n,maxS (look p n) (look r n))
noncomputable def dueJ (p r:Pg):Pg:=r.foldl (fun g x=>pput g x.1 (maxS (look g x.1) x.2)) p
noncomputable def nets (p:Pg):List Int:=p.map fun r=>r.2.1 - r.2.2
theorem keys_v (p:Pg):(pgE p).map (fun p=>p.1.v)=(names p).map V.str:=by simp [pgE,toRow,names,Key.v]
theorem names_len (p:Pg):(names p).length=p.length:=by simp [names]
theorem pput_fresh {g:Pg} {n:Str} {v:Int×Int} (h:n∉names g):pput g n v=g++[(n,v)]:=by
 unfold pput
 rw [if_neg]
 intro ha
 obtain ⟨x,hx,hxe⟩:=List.any_eq_true.mp ha
 exact h (List.mem_map.mpr ⟨x,hx,by simpa using hxe⟩)
theorem names_rows (l:List Str) (f:Str→Int×Int):names (l.map fun n=>(n,f n))=l:=by unfold names;rw [List.map_map];exact List.map_id'' (fun _=>rfl) _
theorem take_fresh {l:List Str} (h:l.Nodup) {i:Nat} (hi:i < l.length):l[i]∉l.take i:=fun hm=>by
 obtain ⟨m,hm',em⟩:=List.mem_iff_getElem.mp hm
 rw [List.getElem_take] at em
 rw [List.length_take] at hm'
 exact List.pairwise_iff_getElem.mp h m i (by exact qAo hm') hi (by exact qAd hm') em
theorem row_get {l:List Str} {f:Str→Int×Int} {i:Nat} (hi:i < l.length):(l.take (i+1)).map (fun n=>(n,f n))=(l.take i).map (fun n=>(n,f n))++[(l[i],f l[i])]:=by
 rw [List.take_add_one,List.getElem?_eq_getElem hi,List.map_append];rfl
theorem look?_none {p:Pg} {n:Str} (h:n∉names p):look? p n=none:=by
 unfold look?
 have:p.find? (fun r=>decide (r.1=n))=none:=by
  rw [List.find?_eq_none]
  intro r hr e
  exact h (List.mem_map.mpr ⟨r,hr,by simpa using e⟩)
 rw [this];rfl
theorem look_none {p:Pg} {n:Str} (h:n∉names p):look p n=(0,0):=by unfold look;rw [look?_none h];rfl
theorem look_pput (g:Pg) (n m:Str) (v:Int×Int):look (pput g n v) m=if m=n then v else look g m:=by
 by_cases hn:n∈names g
 ·have ha:g.any (fun r=>r.1=n)=true:=by
   obtain ⟨r,hr,e⟩:=List.mem_map.mp hn
   exact List.any_eq_true.mpr ⟨r,hr,by simpa using e⟩
  unfold pput
  rw [if_pos ha]
  clear ha
  by_cases hm:m=n
  ·subst hm
   rw [if_pos rfl]
   unfold look look?
   induction g with
   | nil=>simp [names] at hn
   | cons r t ih =>
    by_cases h:r.1=m
    ·simp [h]
    ·have hn':m∈names t:=by
      rcases List.mem_cons.mp hn with e | e
      ·exact absurd e.symm h
      ·exact e
     simpa [h] using ih hn'
  ·rw [if_neg hm]
   unfold look look?
   congr 1
   clear hn
   induction g with
   | nil=>rfl
   | cons r t ih =>
    by_cases h:r.1=m
    ·have:¬ r.1=n:=fun e=>hm (h.symm.trans e)
     simp [h,this,hm]
    ·by_cases h2:r.1=n
     ·have:¬ n=m:=fun e=>hm e.symm
      simpa [h,h2,this] using ih
     ·simpa [h,h2] using ih
 ·rw [pput_fresh hn]
  unfold look look?
  rw [List.find?_append]
  by_cases hm:m=n
  ·subst hm
   have:g.find? (fun r=>decide (r.1=m))=none:=by
    rw [List.find?_eq_none]
    intro r hr e
    exact hn (List.mem_map.mpr ⟨r,hr,by simpa using e⟩)
   rw [this];simp
  ·rw [if_neg hm]
   congr 1
   have:([(n,v)]:Pg).find? (fun r=>decide (r.1=m))=none:=by simp;exact fun e=>hm e.symm
   rw [this];simp
theorem pput_mem (g:Pg) (n m:Str) (v:Int×Int):m∈names (pput g n v)↔m∈names g∨m=n:=by
 rw [pput_names]
 split
 ·rename_i h
  exact ⟨.inl,fun hx=>hx.elim id fun e=>e ▸ h⟩
 ·simp
theorem dueJ_names (r:Pg):∀ (p:Pg) (m:Str),m∈names (dueJ p r)↔m∈names p∨m∈names r:=by
 induction r with
 | nil=>intro p m;simp [dueJ,names]
 | cons x t ih =>
  intro p m
  have:=ih (pput p x.1 (maxS (look p x.1) x.2)) m
  unfold dueJ at this ⊢
  rw [List.foldl_cons,this,pput_mem]
  simp only [names,List.map_cons,List.mem_cons]
  constructor
  ·rintro ((h | h) | h)
   ·exact .inl h
   ·exact .inr (.inl h)
   ·exact .inr (.inr h)
  ·rintro (h | h | h)
   ·exact .inl (.inl h)
   ·exact .inl (.inr h)
   ·exact .inr h
theorem dueJ_len (r:Pg):∀ (p:Pg),(dueJ p r).length≤p.length+r.length:=by
 induction r with
 | nil=>intro p;simp [dueJ]
 | cons x t ih =>
  intro p
  have h1:=ih (pput p x.1 (maxS (look p x.1) x.2))
  have h2:=pput_len p x.1 (maxS (look p x.1) x.2)
  unfold dueJ at h1 ⊢
  rw [List.foldl_cons,List.length_cons]
  (exact qFK h1 h2)
theorem look_notin_dueJ (r:Pg):∀ (p:Pg) (m:Str),m∉names r→look (dueJ p r) m=look p m:=by
 induction r with
 | nil=>intro p m _;rfl
 | cons x t ih =>
  intro p m h
  simp only [names,List.map_cons,List.mem_cons,not_or] at h
  have h1:=ih (pput p x.1 (maxS (look p x.1) x.2)) m h.2
  unfold dueJ at h1 ⊢
  rw [List.foldl_cons,h1,look_pput,if_neg h.1]
theorem look_dueJ (r:Pg):∀ (p:Pg) (m:Str),(names r).Nodup→m∈names r→look (dueJ p r) m=maxS (look p m) (look r m):=by
 induction r with
 | nil=>intro p m _ h;simp [names] at h
 | cons x t ih =>
  intro p m hn h
  simp only [names,List.map_cons,List.nodup_cons] at hn
  have e:dueJ p (x :: t)=dueJ (pput p x.1 (maxS (look p x.1) x.2)) t:=rfl
  rw [e]
  by_cases hm:m=x.1
  ·subst hm
   rw [look_notin_dueJ t _ _ hn.1,look_pput,if_pos rfl]
   have:look (x :: t) x.1=x.2:=by unfold look look?;simp
   rw [this]
  ·have hm':m∈names t:=by
    rcases List.mem_cons.mp h with e | e
    ·exact absurd e hm
    ·exact e
   rw [ih _ m hn.2 hm',look_pput,if_neg hm]
   have:look (x :: t) m=look t m:=by
    unfold look look?
    have hx:¬ x.1=m:=fun e=>hm e.symm
    simp [hx]
   rw [this]
theorem dueJ_nodup (r:Pg):∀ (p:Pg),(names p).Nodup→(names (dueJ p r)).Nodup:=by
 induction r with
 | nil=>intro p h;exact h
 | cons x t ih =>
  intro p h
  have e:dueJ p (x :: t)=dueJ (pput p x.1 (maxS (look p x.1) x.2)) t:=rfl
  rw [e]
  refine ih _ ?_
  rw [pput_names]
  split
  ·exact h
  ·rename_i hn
   rw [List.nodup_append]
   exact ⟨h,by simp,fun a ha b hb=>by rw [List.mem_singleton.mp hb];exact fun e=>hn (e ▸ ha)⟩
noncomputable def NonNeg (x:Int×Int):Prop:=0≤x.1∧0≤x.2
theorem maxS_zero {a:Int×Int} (h:NonNeg a):maxS a (0,0)=a:=by unfold maxS;rw [Int.max_eq_left h.1,Int.max_eq_left h.2]
theorem look_nonneg {p:Pg} (h:PgOk p) (n:Str):NonNeg (look p n):=by
 by_cases hn:n∈names p
 ·have:=h.2 _ (look_mem hn).2
  exact ⟨this.2.1,this.2.2.1⟩
 ·rw [look_none hn];exact ⟨Int.le_refl _,Int.le_refl _⟩
theorem look_dueJ_all {p r:Pg} (hp:PgOk p) (hr:PgOk r) (m:Str):look (dueJ p r) m=maxS (look p m) (look r m):=by
 by_cases h:m∈names r
 ·exact look_dueJ r p m hr.1 h
 ·rw [look_notin_dueJ r p m h,look_none h,maxS_zero (look_nonneg hp m)]
theorem joins_len (p r:Pg):(joins p r).length≤p.length+r.length:=by
 unfold joins
 rw [List.length_map,(srt_perm _).length_eq]
 have:=onceS_len (names p++names r)
 rw [List.length_append,names_len,names_len] at this
 exact this
theorem range_getD (l:List Int):(List.range l.length).map (fun i=>V.int (l.getD i 0))=l.map V.int:=by
 refine List.ext_getElem? fun i=>?_
 rw [List.getElem?_map,List.getElem?_map]
 by_cases h:i < l.length
 ·rw [List.getElem?_range h]
  simp only [Option.map_some,List.getD_eq_getElem?_getD,List.getElem?_eq_getElem h,Option.getD_some]
 ·rw [List.getElem?_eq_none (by simpa using h),List.getElem?_eq_none (by simpa using h)];rfl
theorem nets_get (p:Pg) {i:Nat} (hi:i < p.length):(nets p).getD i 0=(p[i]).2.1 - (p[i]).2.2:=by
 unfold nets;rw [List.getD_eq_getElem?_getD,List.getElem?_map,List.getElem?_eq_getElem hi];rfl
inductive P_joined (xs:List V) (σ:List AObj) (Q:V→List AObj→Prop) (X:XT):Prop
 | mk:∀ j k p r e e',(σ[j]?=some (.dict (pgE p) e))→(σ[k]?=some (.dict (pgE r) e'))→(p.length+r.length≤1000)→(xs=[.ref j,.ref k])→(Q (.ref σ.length) (σ++[.dict (pgE (joins p r)) none]))→P_joined xs σ Q X
theorem good_joined:Good (dr pw_uf050040_08 22) ["one","other"] :=
 ⟨fun pm code doc vals h=>(by obtain ⟨a,b,rfl⟩:=len_2 h;rfl),by decide +kernel,by decide +kernel,by decide +kernel,rfl,rfl,rfl⟩
theorem cf_joined (gl:Gl B mg mb) (bl:Blt B mg mb) (S:Scr B scr nums) (H:HasF B mg (dr pw_uf050040_08 22))
  (c_share_of:CF prog w B mg "share_of" 1 P_share_of)
  (c_greater:CF prog w B mg "greater" 1 P_greater) :
  CF prog w B mg "joined" 3 P_joined:=by
 refine CF_of gl H good_joined ?_
 rintro A pm code doc L a₀ _ σ Q X hA ⟨j,k,p,r,e,e',hj,hk,hlen,rfl,q⟩
 refine ⟨rfl,?_⟩
 change WX _ _ _ _ _ (_ :: _) ((_,_) :: (_,_) :: []) _ _ _
 with_reducible refine X_let (E_dict0 ?_)
 refine X_fors ?_
 with_reducible refine E_bi bl.sorted_ (.builtin _) (Ec (E_bi bl.set_ (.type _) (Ec (E_bin (E_bi bl.list_ (.type _) (Ec (E_nm (Lt (Lh (En ?_))))))))))
 refine C_list_dict hA.handled (up_at hj) (small_size (by rw [pgE_length];exact qBw hlen)) ?_
 with_reducible refine E_bi bl.list_ (.type _) (Ec (E_nm (Lt (Lt (Lh (En ?_))))))
 refine C_list_dict hA.handled (up_at (up_at hk)) (small_size (by rw [pgE_length];exact qGm hlen)) ?_
 rw [keys_v,keys_v]
 refine O_addl at_prev at_end (small_size (by rw [List.length_map,List.length_map,names_len,names_len];exact qFC hlen)) ?_
 rw [← List.map_append]
 with_reducible refine En ?_
 have hol:=onceS_len (names p++names r)
 have hnl:(names p++names r).length=p.length+r.length:=by rw [List.length_append,names_len,names_len]
 refine C_set_list hA.handled at_end (Nat.lt_of_le_of_lt (show _≤1001 by exact qGt hlen hnl) (by decide +kernel)) ?_
 with_reducible refine En ?_
 refine C_sorted_set hA.handled at_end (small_sort (by exact qEW hlen hol hnl)) ?_
 have hsl:(srt (onceS (names p++names r))).length≤1000:=by rw [(srt_perm _).length_eq];(exact qCc hlen hol hnl)
 have hsn:(srt (onceS (names p++names r))).Nodup:=srt_nodup (onceS_nodup _)
 simp only [List.append_assoc,List.cons_append,List.nil_append,List.length_append,List.length_cons,List.length_nil,Nat.zero_add,Nat.reduceAdd]
 generalize AObj.list ((names p).map V.str)=o1
 generalize AObj.list ((names r).map V.str)=o2
 generalize AObj.list ((names p++names r).map V.str)=o3
 generalize AObj.set (onceS (names p++names r))=o4
 unfold joins at q
 generalize srt (onceS (names p++names r))=L at *
 have hL:∀ g:Pg,(σ++[.dict (pgE g) none,o1,o2,o3,o4,.list (L.map V.str)])[σ.length+5]?=some (.list (L.map V.str)):=fun g=>by rw [List.getElem?_append_right (Nat.le_add_right _ _),Nat.add_sub_cancel_left];rfl
 refine ForG.mk (ι:=Pg) (fun i g=>g=(L.take i).map fun n=>(n,maxS (look p n) (look r n))) (fun _ _=>[("found",.ref σ.length),("one",.ref j),("other",.ref k)]) (fun _ g=>σ++[.dict (pgE g) none,o1,o2,o3,o4,.list (L.map V.str)]) (It_list hA.handled (hL [])) [] rfl rfl (hL []) (by with_reducible (refine Sub.c ?_;refine Lh ?_;refine ⟨rfl,?_⟩;refine Sub.c ?_;refine Lt ?_;refine Lh ?_;refine ⟨rfl,?_⟩;refine Sub.c ?_;refine Lt ?_;refine Lt ?_;refine Lh ?_;refine ⟨rfl,?_⟩;exact Sub.nil)) ?_ ?_
 ·rintro i g hi hD -
  rw [List.length_map] at hi
  have eg:(L.map V.str).getD i .none=.str L[i]:=by rw [List.getD_eq_getElem?_getD,List.getElem?_map,List.getElem?_eq_getElem hi];rfl
  rw [eg]
  have hgl:g.length≤i:=by rw [hD,List.length_map,List.length_take];(exact qAY)
  with_reducible refine X_set (E_cf ‹_› (hA.le (by decide)) (Ec (E_cf ‹_› (hA.le (by decide)) (Ec (E_nm (Lt (Lt (Lh (Ec (E_nm (Lh (En ?_))))))))))))
  refine ⟨_,_,_,_,up_at hj,rfl,?_⟩
  with_reducible refine Ec (E_cf ‹_› (hA.le (by decide)) (Ec (E_nm (Lt (Lt (Lt (Lh (Ec (E_nm (Lh (En ?_)))))))))))
  refine ⟨_,_,_,_,up_at hk,rfl,?_⟩
  with_reducible refine En ⟨_,_,_,_,rfl,(E_nm (Lt (Lh (E_nm (Lh ?_)))))⟩
  refine P_dict (key:=.s L[i]) (es:=pgE g) (by simp) (small_size (by rw [pgE_length];exact qAq hsl hi hgl)) ?_
  have es:(σ++[AObj.dict (pgE g) none,o1,o2,o3,o4,.list (L.map V.str)]).set σ.length (.dict (put (pgE g) (.s L[i]) (shV (maxS (look p L[i]) (look r L[i])))) none)=σ++[AObj.dict (pgE (pput g L[i] (maxS (look p L[i]) (look r L[i])))) none,o1,o2,o3,o4,.list (L.map V.str)]:=by
   rw [put_pg,List.set_append_right _ _ (Nat.le_refl _),Nat.sub_self];rfl
  rw [show V.tup [.int (max (look p L[i]).1 (look r L[i]).1),.int (max (look p L[i]).2 (look r L[i]).2)]=shV (maxS (look p L[i]) (look r L[i])) from rfl,es]
  with_reducible refine X_nil ?_
  refine TJ_next (pput g L[i] (maxS (look p L[i]) (look r L[i]))) ?_ rfl (hL _) (by with_reducible (refine Sub.c (Lt (Lh ⟨rfl,(Sub.c (Lt (Lt (Lh ⟨rfl,(Sub.c (Lt (Lt (Lt (Lh ⟨rfl,?_⟩)))))⟩))))⟩));exact Sub.nil))
  rw [row_get hi,← hD]
  refine pput_fresh ?_
  rw [hD,names_rows]
  exact take_fresh hsn hi
 ·rintro g hD -
  rw [List.length_map,List.take_length] at hD
  subst hD
  with_reducible refine X_ret (E_nm (Lh ?_))
  exact R_one0 (pgE_lt _ _) q
inductive P_lacking (xs:List V) (σ:List AObj) (Q:V→List AObj→Prop) (X:XT):Prop
 | mk:∀ j k p r e e',(σ[j]?=some (.dict (pgE p) e))→(σ[k]?=some (.dict (pgE r) e'))→(r.length≤1000)→(xs=[.ref j,.ref k])→(Q (.ref σ.length) (σ++[.dict (pgE (lacks p r)) none]))→P_lacking xs σ Q X
theorem good_lacking:Good (dr pw_uf050040_08 23) ["one","other"] :=
 ⟨fun pm code doc vals h=>(by obtain ⟨a,b,rfl⟩:=len_2 h;rfl),by decide +kernel,by decide +kernel,by decide +kernel,rfl,rfl,rfl⟩
theorem cf_lacking (gl:Gl B mg mb) (bl:Blt B mg mb) (S:Scr B scr nums) (H:HasF B mg (dr pw_uf050040_08 23))
  (c_share_of:CF prog w B mg "share_of" 1 P_share_of)
  (c_reaches:CF prog w B mg "reaches" 1 P_reaches) :
  CF prog w B mg "lacking" 3 P_lacking:=by
 refine CF_of gl H good_lacking ?_
 rintro A pm code doc L a₀ _ σ Q X hA ⟨j,k,p,r,e,e',hj,hk,hlen,rfl,q⟩
 refine ⟨rfl,?_⟩
 change WX _ _ _ _ _ (_ :: _) ((_,_) :: (_,_) :: []) _ _ _
 refine X_keys hk fun hnd=>?_
 replace hnd:=names_nodup hnd
 with_reducible refine X_let (E_dict0 ?_)
 refine X_fors ?_
 with_reducible refine E_bi bl.sorted_ (.builtin _) (Ec (E_nm (Lt (Lt (Lh (En ?_))))))
 refine C_sorted_dict hA.handled (up_at hk) (fun q hq=>?_) (small_sort (by rw [pgE_length];exact qAI hlen)) ?_
 ·obtain ⟨x,_,rfl⟩:=List.mem_map.mp hq
  exact ⟨x.1,rfl⟩
 have ek:(pgE r).map (fun p=>keyS p.1)=names r:=by simp [pgE,toRow,keyS,names]
 rw [ek]
 have hsl:(srt (names r)).length=r.length:=by rw [(srt_perm _).length_eq];simp [names]
 have hsn:(srt (names r)).Nodup:=srt_nodup hnd
 generalize hL:srt (names r)=L at *
 have hmem:∀ n∈L,n∈names r:=fun n hn=>by rw [← hL] at hn;exact srt_mem.mp hn
 have up:∀ a b,(σ++[a]++[b])[(σ++[a]).length]?=some b:=fun a b=>at_end
 refine ForG.mk (ι:=Pg) (fun i g=>g=((L.take i).map fun n=>(n,look r n)).filter (lackB p)) (fun _ _=>[("found",.ref σ.length),("one",.ref j),("other",.ref k)]) (fun _ g=>σ++[.dict (pgE g) none]++[.list (L.map V.str)]) (It_list hA.handled at_end) [] rfl rfl at_end (by with_reducible (refine Sub.c ?_;refine Lh ?_;refine ⟨rfl,?_⟩;refine Sub.c ?_;refine Lt ?_;refine Lh ?_;refine ⟨rfl,?_⟩;refine Sub.c ?_;refine Lt ?_;refine Lt ?_;refine Lh ?_;refine ⟨rfl,?_⟩;exact Sub.nil)) ?_ ?_
 ·rintro i g hi hD -
  rw [List.length_map] at hi
  have eg:(L.map V.str).getD i .none=.str L[i]:=by rw [List.getD_eq_getElem?_getD,List.getElem?_map,List.getElem?_eq_getElem hi];rfl
  rw [eg]
  have hnm:L[i]∈names r:=hmem _ (List.getElem_mem hi)
  have hgl:g.length≤i:=by
   rw [hD]
   refine Nat.le_trans (List.length_filter_le _ _) ?_
   rw [List.length_map,List.length_take];(exact qAY)
  have hstep:((L.take (i+1)).map fun n=>(n,look r n)).filter (lackB p)=g++if lackB p (L[i],look r L[i]) then [(L[i],look r L[i])] else []:=by
   rw [List.take_add_one,List.getElem?_eq_getElem hi,List.map_append,List.filter_append,← hD]
   simp only [Option.toList_some,List.map_cons,List.map_nil,List.filter_cons,List.filter_nil]
  have hfresh:L[i]∉names g:=fun hm=>by
   obtain ⟨x,hx,hxe⟩:=List.mem_map.mp hm
   rw [hD] at hx
   obtain ⟨n,hn,rfl⟩:=List.mem_map.mp (List.mem_filter.mp hx).1
   obtain ⟨m,hm',em⟩:=List.mem_iff_getElem.mp hn
   rw [List.getElem_take] at em
   rw [List.length_take] at hm'
   exact List.pairwise_iff_getElem.mp hsn m i (by exact qAo hm') hi (by exact qAd hm') (em.trans hxe)
  refine X_ifs ?_
  with_reducible refine T_not (T_value (E_cf ‹_› (hA.le (by decide)) (Ec (E_cf ‹_› (hA.le (by decide)) (Ec (E_nm (Lt (Lt (Lh (Ec (E_nm (Lh (En ?_)))))))))))))
  refine ⟨_,_,_,_,up_at (up_at hj),rfl,?_⟩
  with_reducible refine Ec (E_sub (E_nm (Lt (Lt (Lt (Lh (E_nm (Lh ?_))))))))
  refine S_dict (key:=.s _) (up_at (up_at hk)) (by rw [at_pg,(look_mem hnm).1];rfl) ?_
  with_reducible refine En ⟨_,_,_,_,rfl,(T_b ?_)⟩
  refine iteDn (fun h=>?_) (fun h=>?_)
  ·have hb:lackB p (L[i],look r L[i])=true:=by unfold lackB reach;rw [decide_eq_false h];rfl
   with_reducible refine X_set (E_sub (E_nm (Lt (Lt (Lt (Lh (E_nm (Lh ?_))))))))
   refine S_dict (key:=.s _) (up_at (up_at hk)) (by rw [at_pg,(look_mem hnm).1];rfl) ?_
   with_reducible refine E_nm (Lt (Lh (E_nm (Lh ?_))))
   refine P_dict (key:=.s L[i]) at_prev (small_size (by rw [pgE_length];exact qGN hlen hsl hi hgl)) ?_
   rw [set_prev,put_pg]
   with_reducible refine X_nil (sq_next (X_nil ?_))
   refine TJ_next (pput g L[i] (look r L[i])) ?_ rfl at_end' (by with_reducible (refine Sub.c (Lt (Lh ⟨rfl,(Sub.c (Lt (Lt (Lh ⟨rfl,(Sub.c (Lt (Lt (Lt (Lh ⟨rfl,?_⟩)))))⟩))))⟩));exact Sub.nil))
   rw [hstep,hb]
   unfold pput
   rw [if_neg ?_]
   ·rfl
   ·intro ha
    obtain ⟨x,hx,hxe⟩:=List.any_eq_true.mp ha
    exact hfresh (List.mem_map.mpr ⟨x,hx,by simpa using hxe⟩)
  ·have hb:lackB p (L[i],look r L[i])=false:=by unfold lackB reach;rw [decide_eq_true h];rfl
   with_reducible refine X_nil (sq_next (X_nil ?_))
   exact TJ_next g (by rw [hstep,hb];simp) rfl at_end' (by with_reducible (refine Sub.c (Lt (Lh ⟨rfl,(Sub.c (Lt (Lt (Lh ⟨rfl,(Sub.c (Lt (Lt (Lt (Lh ⟨rfl,?_⟩)))))⟩))))⟩));exact Sub.nil))
 ·rintro g hD -
  rw [List.length_map,List.take_length] at hD
  have hg:g=lacks p r:=by rw [hD];unfold lacks sortedP;rw [hL]
  subst hg
  with_reducible refine X_ret (E_nm (Lh ?_))
  rw [List.append_assoc]
  exact R_one0 (pgE_lt _ _) q
inductive P_total (xs:List V) (σ:List AObj) (Q:V→List AObj→Prop) (X:XT):Prop
 | mk:∀ k p e,(σ[k]?=some (.dict (pgE p) e))→(p.length≤1000)→(xs=[.ref k])→(Q (.int (nets p).sum) σ)→P_total xs σ Q X
theorem good_total:Good (dr pw_uf050040_08 24) ["page"] :=
 ⟨fun pm code doc vals h=>(by obtain ⟨a,rfl⟩:=len_1 h;rfl),by decide +kernel,by decide +kernel,by decide +kernel,rfl,rfl,rfl⟩
theorem cf_total (gl:Gl B mg mb) (bl:Blt B mg mb) (S:Scr B scr nums) (H:HasF B mg (dr pw_uf050040_08 24))
  (c_net:CF prog w B mg "net" 1 P_net) :
  CF prog w B mg "total" 2 P_total:=by
 refine CF_of gl H good_total ?_
 rintro A pm code doc L a₀ _ σ Q X hA ⟨k,p,e,hk,hlen,rfl,q⟩
 refine ⟨rfl,?_⟩
 change WX _ _ _ _ _ (_ :: _) ((_,_) :: []) _ _ _
 refine X_keys hk fun hnd=>?_
 replace hnd:=names_nodup hnd
 with_reducible refine X_ret (E_bi bl.sum_ (.builtin _) (Ec ?_))
 refine E_compd [("page",.ref k)] (fun i=>.int ((nets p).getD i 0)) (by kernel_rfl!) (by with_reducible (refine Sub.c ?_;refine Lh ?_;refine ⟨rfl,?_⟩;exact Sub.nil)) (by kernel_rfl!) env_apart hA.handled hk (small_size (by rw [pgE_length];exact qAI hlen)) (fun ep=>?_) (fun ep D i junk hi=>?_) ?_
 ·with_reducible refine E_nm (Lh ⟨rfl,?_⟩)
  first | exact ⟨rfl,rfl⟩ | rfl
 ·rw [pgE_length] at hi
  rw [keyAt_pg hi]
  with_reducible refine E_cf ‹_› (hA.le (by decide)) (Ec (E_sub (E_nm (Lt (Lh (E_nm (Lh ?_)))))))
  refine S_dict (key:=.s _) (up_at (pin_at hk)) (at_pg_get hnd hi) ?_
  with_reducible refine En ⟨_,_,rfl,?_⟩
  exact ⟨by rw [nets_get p hi],rfl⟩
 rw [pgE_length,show p.length=(nets p).length from (by simp [nets]),range_getD]
 with_reducible refine En ?_
 refine C_sum hA.handled at_end ?_
 exact R_none (by simp [V.lt]) q
noncomputable def HandAt (τ:List AObj) (k:Nat) (n:Str) (p:Pg) (kn:Nat):Prop :=
 ∃ kd,τ[k]?=some (.inst 242 kn)∧τ[kn]?=some (.ns [("name",.str n),("heard",.ref kd)])∧τ[kd]?=some (.dict (pgE p) none)
noncomputable def Upd (kn:Nat) (τ τ':List AObj):Prop:=∀ (j:Nat) (x:AObj),j≠kn→τ[j]?=some x→τ'[j]?=some x
theorem HandAt.up {τ:List AObj} {k kn:Nat} {n:Str} {p:Pg} {more:List AObj} (h:HandAt τ k n p kn):HandAt (τ++more) k n p kn :=
 let ⟨kd,h1,h2,h3⟩:=h;⟨kd,up_at h1,up_at h2,up_at h3⟩
theorem aLt {τ:List AObj} {k:Nat} {x:AObj} (h:τ[k]?=some x):k < τ.length:=(List.getElem?_eq_some_iff.mp h).1
theorem exc_here {τ junk:List AObj} {C:Addr} {t:Option Nat}:(τ++AObj.exc C t :: junk)[τ.length]?=some (.exc C t):=by simp
inductive P_Hand_init (xs:List V) (σ:List AObj) (Q:V→List AObj→Prop) (X:XT):Prop
 | mk:∀ k kn s,(xs=[.ref k,.str s])→(σ[k]?=some (.inst 242 kn))→(σ[kn]?=some (.ns []))→(isNameS s=true)→(Q .none (σ.set kn (.ns [("name",.str s),("heard",.ref σ.length)])++[.dict [] none]))→P_Hand_init xs σ Q X
theorem good_Hand_init:GoodM (dm pw_uf050040_08 26 0) ["self","name"] :=
 ⟨fun q pm code doc vals h=>(by obtain ⟨a,b,rfl⟩:=len_2 h;rfl),by decide +kernel,by decide +kernel,by decide +kernel,rfl,rfl,rfl⟩
theorem cf_Hand_init (gl:Gl B mg mb) (bl:Blt B mg mb) (S:Scr B scr nums) (H:HasM B 183 (dm pw_uf050040_08 26 0)) (k_Hand:Cls B 242 ["name","heard"] [("__init__",183),("grown",190),("up",197),("down",204),("page",211),("told",218),("letter",225),("trusts",232),("hear",239)])
  (c_is_name:CF prog w B mg "is_name" 1 P_is_name) :
  CM prog w B 183 2 P_Hand_init:=by
 refine CM_of gl H good_Hand_init ?_
 rintro A pm code doc q₀ L a₀ _ σ Q X hA ⟨k,kn,s,rfl,h1,h2,hs,q⟩
 refine ⟨rfl,?_⟩
 change WX _ _ _ _ _ (_ :: _) ((_,_) :: (_,_) :: []) _ _ _
 have hl:=isNameS_len hs
 refine X_ifs ?_
 with_reducible refine T_not (T_value (E_cf ‹_› (hA.le (by decide)) (Ec (E_nm (Lt (Lh (En ?_)))))))
 refine .inl ⟨s,rfl,by exact qBZ hl,?_⟩
 rw [hs]
 with_reducible refine T_b (iN (X_nil (sq_next ?_)))
 refine X_seta ?_
 with_reducible refine E_nm (Lt (Lh (E_nm (Lh ?_))))
 refine SA_inst k_Hand h1 h2 (by decide +kernel) (by simp) (PQ_nil ?_)
 have hne:kn≠k:=fun e=>by rw [e,h1] at h2;cases h2
 have h1':(σ.set kn (.ns [("name",.str s)]))[k]?=some (.inst 242 kn):=by rw [List.getElem?_set_ne hne];exact h1
 have h2':(σ.set kn (.ns [("name",.str s)]))[kn]?=some (.ns [("name",.str s)]):=List.getElem?_set_self (aLt h2)
 refine X_seta ?_
 with_reducible refine E_dict0 (E_nm (Lh ?_))
 refine SA_inst k_Hand (up_at h1') (up_at h2') (by decide +kernel) (by simp) (PQ_there (by decide +kernel) (PQ_nil ?_))
 have e:(σ.set kn (.ns [("name",.str s)])++[AObj.dict [] none]).set kn (.ns [("name",.str s),("heard",.ref (σ.set kn (.ns [("name",.str s)])).length)])=σ.set kn (.ns [("name",.str s),("heard",.ref σ.length)])++[.dict [] none]:=by
  rw [List.set_append_left _ _ (by rw [List.length_set];exact aLt h2),List.set_set,List.length_set]
 rw [e]
 with_reducible refine X_nil ?_
 exact R_next q
noncomputable abbrev P_Hand:List V→List AObj→(V→List AObj→Prop)→XT→Prop:=(fun (xs:List V) (σ:List AObj) (Q:V→List AObj→Prop) (X:XT)=>P_Hand_init (.ref (σ.length+1) :: xs) (σ++[.ns []]++[.inst 242 σ.length]) (fun (v:V) σ'=>v=.none∧Q (.ref (σ.length+1)) σ') X)
inductive P_Hand_grown (xs:List V) (σ:List AObj) (Q:V→List AObj→Prop) (X:XT):Prop
 | mk:∀ k n p kn a b,(HandAt σ k n p kn)→(p.length≤900)→(xs=[.ref k,.int a,.int b])→(∀ σ',HandAt σ' k n (joins p [(n,(look p n).1+a,(look p n).2+b)]) kn→Upd kn σ σ'→Q (.int (nets (joins p [(n,(look p n).1+a,(look p n).2+b)])).sum) σ')→P_Hand_grown xs σ Q X
theorem good_Hand_grown:GoodM (dm pw_uf050040_08 26 1) ["self","more","less"] :=
 ⟨fun q pm code doc vals h=>(by obtain ⟨a,b,c,rfl⟩:=len_3 h;rfl),by decide +kernel,by decide +kernel,by decide +kernel,rfl,rfl,rfl⟩
theorem cf_Hand_grown (gl:Gl B mg mb) (bl:Blt B mg mb) (S:Scr B scr nums) (H:HasM B 190 (dm pw_uf050040_08 26 1)) (k_Hand:Cls B 242 ["name","heard"] [("__init__",183),("grown",190),("up",197),("down",204),("page",211),("told",218),("letter",225),("trusts",232),("hear",239)])
  (c_share_of:CF prog w B mg "share_of" 1 P_share_of)
  (c_joined:CF prog w B mg "joined" 3 P_joined)
  (c_total:CF prog w B mg "total" 2 P_total) :
  CM prog w B 190 4 P_Hand_grown:=by
 refine CM_of gl H good_Hand_grown ?_
 rintro A pm code doc q₀ L a₀ _ σ Q X hA ⟨k,n,p,kn,a,b,⟨kd,h1,h2,h3⟩,hl,rfl,q⟩
 refine ⟨rfl,?_⟩
 change WX _ _ _ _ _ (_ :: _) ((_,_) :: (_,_) :: (_,_) :: []) _ _ _
 with_reducible refine X_let (E_cf ‹_› (hA.le (by decide)) (Ec ?_))
 refine E_attr ?_
 with_reducible refine E_nm (Lh ?_)
 refine A_inst k_Hand h1 h2 (by decide +kernel) ?_
 with_reducible refine Lt (Lh ?_)
 refine ⟨VH.ref,?_⟩
 with_reducible refine Ec ?_
 refine E_attr ?_
 with_reducible refine E_nm (Lh ?_)
 refine A_inst k_Hand h1 h2 (by decide +kernel) ?_
 with_reducible refine Lh ?_
 refine ⟨VH.str,?_⟩
 with_reducible refine En ?_
 refine ⟨_,_,_,_,h3,rfl,?_⟩
 refine X_seta ?_
 with_reducible refine E_cf ‹_› (hA.le (by decide)) (Ec ?_)
 refine E_attr ?_
 with_reducible refine E_nm (Lt (Lh ?_))
 refine A_inst k_Hand h1 h2 (by decide +kernel) ?_
 with_reducible refine Lt (Lh ?_)
 refine ⟨VH.ref,?_⟩
 with_reducible refine Ec ?_
 refine E_dict1 ?_
 refine E_attr ?_
 with_reducible refine E_nm (Lt (Lh ?_))
 refine A_inst k_Hand (up_at h1) (up_at h2) (by decide +kernel) ?_
 with_reducible refine Lh ?_
 refine ⟨VH.str,?_⟩
 with_reducible refine E_tuple (Ec (E_bin (E_sub (E_nm (Lh (E_int (S_t0 (E_nm (Lt (Lt (Lh (O_add (Ec (E_bin (E_sub (E_nm (Lh (E_int (S_t1 (E_nm (Lt (Lt (Lt (Lh (O_add (En (An ?_)))))))))))))))))))))))))))
 refine ⟨.s n,rfl,at_end,?_⟩
 rw [set_end]
 with_reducible refine En ?_
 generalize hv:((look p n).1+a,(look p n).2+b)=v
 have hd:AObj.dict [(Key.s n,V.tup [.int ((look p n).1+a),.int ((look p n).2+b)])] none=.dict (pgE [(n,v)]) none:=by subst hv;rfl
 rw [hd]
 refine ⟨_,_,_,[(n,v)],_,_,up_at h3,at_end,by simp;exact qHZ hl,rfl,?_⟩
 with_reducible refine E_nm (Lt (Lh ?_))
 have hne:kn≠k:=fun e=>by rw [e,h1] at h2;cases h2
 have hkn:=aLt h2
 refine SA_inst k_Hand (up_at (up_at h1)) (up_at (up_at h2)) (by decide +kernel) (by simp) (PQ_there (by decide +kernel) (PQ_here ?_))
 have hj:=joins_len p [(n,v)]
 have g:((σ++[AObj.dict (pgE [(n,v)]) none]++[AObj.dict (pgE (joins p [(n,v)])) none]).set kn (.ns [("name",.str n),("heard",.ref (σ++[AObj.dict (pgE [(n,v)]) none]).length)]))[(σ++[AObj.dict (pgE [(n,v)]) none]).length]?=some (.dict (pgE (joins p [(n,v)])) none):=by
  rw [List.getElem?_set_ne (by simp;exact qBf hkn)];exact at_end
 have hk':((σ++[AObj.dict (pgE [(n,v)]) none]++[AObj.dict (pgE (joins p [(n,v)])) none]).set kn (.ns [("name",.str n),("heard",.ref (σ++[AObj.dict (pgE [(n,v)]) none]).length)]))[k]?=some (.inst 242 kn):=by
  rw [List.getElem?_set_ne hne];exact up_at (up_at h1)
 have hn':((σ++[AObj.dict (pgE [(n,v)]) none]++[AObj.dict (pgE (joins p [(n,v)])) none]).set kn (.ns [("name",.str n),("heard",.ref (σ++[AObj.dict (pgE [(n,v)]) none]).length)]))[kn]?=some (.ns [("name",.str n),("heard",.ref (σ++[AObj.dict (pgE [(n,v)]) none]).length)]):=List.getElem?_set_self (by simp;exact qAv hkn)
 have hu:Upd kn σ ((σ++[AObj.dict (pgE [(n,v)]) none]++[AObj.dict (pgE (joins p [(n,v)])) none]).set kn (.ns [("name",.str n),("heard",.ref (σ++[AObj.dict (pgE [(n,v)]) none]).length)])):=fun j x hj' hx=>by
  rw [List.getElem?_set_ne (Ne.symm hj')];exact up_at (up_at hx)
 generalize (σ++[AObj.dict (pgE [(n,v)]) none]++[AObj.dict (pgE (joins p [(n,v)])) none]).set kn (.ns [("name",.str n),("heard",.ref (σ++[AObj.dict (pgE [(n,v)]) none]).length)])=τ at g hk' hn' hu ⊢
 generalize (σ++[AObj.dict (pgE [(n,v)]) none]).length=kd' at g hn' ⊢
 with_reducible refine X_ret (E_cf ‹_› (hA.le (by decide)) (Ec ?_))
 refine E_attr ?_
 with_reducible refine E_nm (Lt (Lh ?_))
 refine A_inst k_Hand hk' hn' (by decide +kernel) ?_
 with_reducible refine Lt (Lh ?_)
 refine ⟨VH.ref,?_⟩
 with_reducible refine En ?_
 refine ⟨_,_,_,g,by simp at hj;exact qHr hl hj,rfl,?_⟩
 subst hv
 exact R_all (q τ ⟨kd',hk',hn',g⟩ hu)
inductive P_Hand_up (xs:List V) (σ:List AObj) (Q:V→List AObj→Prop) (X:XT):Prop
 | mk:∀ k n p kn m,(HandAt σ k n p kn)→(p.length≤900)→((1≤m∧m≤1000000000))→(xs=[.ref k,.int m])→(∀ σ',HandAt σ' k n (joins p [(n,(look p n).1+m,(look p n).2+0)]) kn→Upd kn σ σ'→Q (.int (nets (joins p [(n,(look p n).1+m,(look p n).2+0)])).sum) σ')→P_Hand_up xs σ Q X
theorem good_Hand_up:GoodM (dm pw_uf050040_08 26 2) ["self","many"] :=
 ⟨fun q pm code doc vals h=>(by obtain ⟨a,b,rfl⟩:=len_2 h;rfl),by decide +kernel,by decide +kernel,by decide +kernel,rfl,rfl,rfl⟩
theorem cf_Hand_up (gl:Gl B mg mb) (bl:Blt B mg mb) (S:Scr B scr nums) (H:HasM B 197 (dm pw_uf050040_08 26 2)) (k_Hand:Cls B 242 ["name","heard"] [("__init__",183),("grown",190),("up",197),("down",204),("page",211),("told",218),("letter",225),("trusts",232),("hear",239)])
  (c_is_amount:CF prog w B mg "is_amount" 1 P_is_amount)
  (c_Hand_grown:CM prog w B 190 4 P_Hand_grown) :
  CM prog w B 197 5 P_Hand_up:=by
 refine CM_of gl H good_Hand_up ?_
 rintro A pm code doc q₀ L a₀ _ σ Q X hA ⟨k,n,p,kn,m,hh,hl,hm,rfl,q⟩
 refine ⟨rfl,?_⟩
 change WX _ _ _ _ _ (_ :: _) ((_,_) :: (_,_) :: []) _ _ _
 refine X_ifs ?_
 with_reducible refine T_not (T_value (E_cf ‹_› (hA.le (by decide)) (Ec (E_nm (Lt (Lh (En ?_)))))))
 refine .inl ⟨m,rfl,?_⟩
 rw [decide_eq_true hm]
 with_reducible refine T_b (iN (X_nil (sq_next (X_ret ?_))))
 obtain ⟨kd,h1,h2,h3⟩:=id hh
 refine E_mcallv ?_
 with_reducible refine E_nm (Lh ?_)
 refine ⟨.ref 190,GM_inst k_Hand h1 h2 rfl (by kernel_rfl!),c_Hand_grown.1,?_⟩
 with_reducible refine Ec (E_nm (Lt (Lh (Ec (E_int (En ?_))))))
 refine C_cm c_Hand_grown (hA.le (by decide)) ⟨k,n,p,kn,_,_,hh,hl,rfl,fun σ' h1 h2=>?_⟩
 exact R_all (q σ' h1 h2)
inductive P_Hand_down (xs:List V) (σ:List AObj) (Q:V→List AObj→Prop) (X:XT):Prop
 | mk:∀ k n p kn m,(HandAt σ k n p kn)→(p.length≤900)→((1≤m∧m≤1000000000))→(xs=[.ref k,.int m])→(∀ σ',HandAt σ' k n (joins p [(n,(look p n).1+0,(look p n).2+m)]) kn→Upd kn σ σ'→Q (.int (nets (joins p [(n,(look p n).1+0,(look p n).2+m)])).sum) σ')→P_Hand_down xs σ Q X
theorem good_Hand_down:GoodM (dm pw_uf050040_08 26 3) ["self","many"] :=
 ⟨fun q pm code doc vals h=>(by obtain ⟨a,b,rfl⟩:=len_2 h;rfl),by decide +kernel,by decide +kernel,by decide +kernel,rfl,rfl,rfl⟩
theorem cf_Hand_down (gl:Gl B mg mb) (bl:Blt B mg mb) (S:Scr B scr nums) (H:HasM B 204 (dm pw_uf050040_08 26 3)) (k_Hand:Cls B 242 ["name","heard"] [("__init__",183),("grown",190),("up",197),("down",204),("page",211),("told",218),("letter",225),("trusts",232),("hear",239)])
  (c_is_amount:CF prog w B mg "is_amount" 1 P_is_amount)
  (c_Hand_grown:CM prog w B 190 4 P_Hand_grown) :
  CM prog w B 204 5 P_Hand_down:=by
 refine CM_of gl H good_Hand_down ?_
 rintro A pm code doc q₀ L a₀ _ σ Q X hA ⟨k,n,p,kn,m,hh,hl,hm,rfl,q⟩
 refine ⟨rfl,?_⟩
 change WX _ _ _ _ _ (_ :: _) ((_,_) :: (_,_) :: []) _ _ _
 refine X_ifs ?_
 with_reducible refine T_not (T_value (E_cf ‹_› (hA.le (by decide)) (Ec (E_nm (Lt (Lh (En ?_)))))))
 refine .inl ⟨m,rfl,?_⟩
 rw [decide_eq_true hm]
 with_reducible refine T_b (iN (X_nil (sq_next (X_ret ?_))))
 obtain ⟨kd,h1,h2,h3⟩:=id hh
 refine E_mcallv ?_
 with_reducible refine E_nm (Lh ?_)
 refine ⟨.ref 190,GM_inst k_Hand h1 h2 rfl (by kernel_rfl!),c_Hand_grown.1,?_⟩
 with_reducible refine Ec (E_int (Ec (E_nm (Lt (Lh (En ?_))))))
 refine C_cm c_Hand_grown (hA.le (by decide)) ⟨k,n,p,kn,_,_,hh,hl,rfl,fun σ' h1 h2=>?_⟩
 exact R_all (q σ' h1 h2)
inductive P_Hand_page (xs:List V) (σ:List AObj) (Q:V→List AObj→Prop) (X:XT):Prop
 | mk:∀ k n p kn,(HandAt σ k n p kn)→(p.length≤1000)→(xs=[.ref k])→(Q (.ref σ.length) (σ++[.dict (pgE p) none]))→P_Hand_page xs σ Q X
theorem good_Hand_page:GoodM (dm pw_uf050040_08 26 4) ["self"] :=
 ⟨fun q pm code doc vals h=>(by obtain ⟨a,rfl⟩:=len_1 h;rfl),by decide +kernel,by decide +kernel,by decide +kernel,rfl,rfl,rfl⟩
theorem cf_Hand_page (gl:Gl B mg mb) (bl:Blt B mg mb) (S:Scr B scr nums) (H:HasM B 211 (dm pw_uf050040_08 26 4)) (k_Hand:Cls B 242 ["name","heard"] [("__init__",183),("grown",190),("up",197),("down",204),("page",211),("told",218),("letter",225),("trusts",232),("hear",239)]) :
  CM prog w B 211 1 P_Hand_page:=by
 refine CM_of gl H good_Hand_page ?_
 rintro A pm code doc q₀ L a₀ _ σ Q X hA ⟨k,n,p,kn,⟨kd,h1,h2,h3⟩,hl,rfl,q⟩
 refine ⟨rfl,?_⟩
 change WX _ _ _ _ _ (_ :: _) ((_,_) :: []) _ _ _
 with_reducible refine X_ret (E_bi bl.dict_ (.type _) (Ec ?_))
 refine E_attr ?_
 with_reducible refine E_nm (Lh ?_)
 refine A_inst k_Hand h1 h2 (by decide +kernel) ?_
 with_reducible refine Lt (Lh ?_)
 refine ⟨VH.ref,?_⟩
 with_reducible refine En ?_
 refine C_dict_copy h3 (small_size (by rw [pgE_length];exact qAI hl)) ?_
 exact R_all q
inductive P_Hand_told (xs:List V) (σ:List AObj) (Q:V→List AObj→Prop) (X:XT):Prop
 | mk:∀ k n p kn,(HandAt σ k n p kn)→(p.length≤1000)→(xs=[.ref k])→(Q (.int (nets p).sum) σ)→P_Hand_told xs σ Q X
theorem good_Hand_told:GoodM (dm pw_uf050040_08 26 5) ["self"] :=
 ⟨fun q pm code doc vals h=>(by obtain ⟨a,rfl⟩:=len_1 h;rfl),by decide +kernel,by decide +kernel,by decide +kernel,rfl,rfl,rfl⟩
theorem cf_Hand_told (gl:Gl B mg mb) (bl:Blt B mg mb) (S:Scr B scr nums) (H:HasM B 218 (dm pw_uf050040_08 26 5)) (k_Hand:Cls B 242 ["name","heard"] [("__init__",183),("grown",190),("up",197),("down",204),("page",211),("told",218),("letter",225),("trusts",232),("hear",239)])
  (c_total:CF prog w B mg "total" 2 P_total) :
  CM prog w B 218 3 P_Hand_told:=by
 refine CM_of gl H good_Hand_told ?_
 rintro A pm code doc q₀ L a₀ _ σ Q X hA ⟨k,n,p,kn,⟨kd,h1,h2,h3⟩,hl,rfl,q⟩
 refine ⟨rfl,?_⟩
 change WX _ _ _ _ _ (_ :: _) ((_,_) :: []) _ _ _
 with_reducible refine X_ret (E_cf ‹_› (hA.le (by decide)) (Ec ?_))
 refine E_attr ?_
 with_reducible refine E_nm (Lh ?_)
 refine A_inst k_Hand h1 h2 (by decide +kernel) ?_
 with_reducible refine Lt (Lh ?_)
 refine ⟨VH.ref,?_⟩
 with_reducible refine En ?_
 exact ⟨_,_,_,h3,hl,rfl,R_all q⟩
inductive P_Hand_trusts (xs:List V) (σ:List AObj) (Q:V→List AObj→Prop) (X:XT):Prop
 | mk:∀ k n p kn kp r e,(HandAt σ k n p kn)→(σ[kp]?=some (.dict (pgE r) e))→(xs=[.ref k,.ref kp])→(Q (.bool (reach (look p n) (look r n))) σ)→P_Hand_trusts xs σ Q X
theorem good_Hand_trusts:GoodM (dm pw_uf050040_08 26 7) ["self","page"] :=
 ⟨fun q pm code doc vals h=>(by obtain ⟨a,b,rfl⟩:=len_2 h;rfl),by decide +kernel,by decide +kernel,by decide +kernel,rfl,rfl,rfl⟩
theorem cf_Hand_trusts (gl:Gl B mg mb) (bl:Blt B mg mb) (S:Scr B scr nums) (H:HasM B 232 (dm pw_uf050040_08 26 7)) (k_Hand:Cls B 242 ["name","heard"] [("__init__",183),("grown",190),("up",197),("down",204),("page",211),("told",218),("letter",225),("trusts",232),("hear",239)])
  (c_reaches:CF prog w B mg "reaches" 1 P_reaches)
  (c_share_of:CF prog w B mg "share_of" 1 P_share_of) :
  CM prog w B 232 3 P_Hand_trusts:=by
 refine CM_of gl H good_Hand_trusts ?_
 rintro A pm code doc q₀ L a₀ _ σ Q X hA ⟨k,n,p,kn,kp,r,e,⟨kd,h1,h2,h3⟩,hp,rfl,q⟩
 refine ⟨rfl,?_⟩
 change WX _ _ _ _ _ (_ :: _) ((_,_) :: (_,_) :: []) _ _ _
 with_reducible refine X_ret (E_cf ‹_› (hA.le (by decide)) (Ec (E_cf ‹_› (hA.le (by decide)) (Ec ?_))))
 refine E_attr ?_
 with_reducible refine E_nm (Lh ?_)
 refine A_inst k_Hand h1 h2 (by decide +kernel) ?_
 with_reducible refine Lt (Lh ?_)
 refine ⟨VH.ref,?_⟩
 with_reducible refine Ec ?_
 refine E_attr ?_
 with_reducible refine E_nm (Lh ?_)
 refine A_inst k_Hand h1 h2 (by decide +kernel) ?_
 with_reducible refine Lh ?_
 refine ⟨VH.str,?_⟩
 with_reducible refine En ?_
 refine ⟨_,_,_,_,h3,rfl,?_⟩
 with_reducible refine Ec (E_cf ‹_› (hA.le (by decide)) (Ec (E_nm (Lt (Lh (Ec ?_))))))
 refine E_attr ?_
 with_reducible refine E_nm (Lh ?_)
 refine A_inst k_Hand h1 h2 (by decide +kernel) ?_
 with_reducible refine Lh ?_
 refine ⟨VH.str,?_⟩
 with_reducible refine En ?_
 refine ⟨_,_,_,_,hp,rfl,?_⟩
 with_reducible refine En ⟨_,_,_,_,rfl,?_⟩
 exact R_all q
noncomputable def sg (c:Nat):Str:=⟨#[c]⟩
theorem join_sg (l:List Nat):Txt.join (Str.ofString "") (l.map sg)=⟨l.toArray⟩:=by
 have:Str.ofString "" = ⟨#[]⟩:=by decide +kernel
 rw [this];exact join_empty l
theorem joinOk_sg (l:List Nat) (h:l.length≤1000):JoinOk (Str.ofString "") (l.map sg)=true:=by
 refine joinOk_small (fun y hy=>?_) (by simpa using h) (by decide +kernel)
 obtain ⟨c,_,rfl⟩:=List.mem_map.mp hy
 show 1≤1000
 decide
noncomputable def mixed (c k:Int):Int:=(c % 1000000007+7919 * k+11) * 48271 % 2147483647
theorem letters_get {i:Nat} (h:i < 26):letters.cps.getD i 0=97+i:=by
 have e:letters.cps=(List.range' 97 26).toArray:=by rw [← letters_list]
 rw [e,Array.getD_eq_getD_getElem?,List.getElem?_toArray,List.getElem?_range' (by simpa using h)]
 simp
theorem letters_size:letters.cps.size=26:=by decide +kernel
theorem letters_sign {i:Nat} (h:i < 26):signAt letters i=sg (97+i):=by unfold signAt sg;rw [letters_get h]
noncomputable def nameL0 (c:Int):List Nat:=(List.range (1+c % 8 - 0).toNat).map fun (k:Nat)=>97+((c / 8+(0+(k:Int)) * (1+c / 208 % 25)) % 26).toNat
noncomputable def nameL (c:Int):List Nat:=if c / 5200 % 2=1 then (nameL0 c).set (c / 10400 % ((nameL0 c).length:Int)).toNat (97+(c / 83200 % 26).toNat) else nameL0 c
noncomputable def nameBy (c:Int):Str:=⟨(nameL c).toArray⟩
theorem nameL0_length (c:Int):(nameL0 c).length=(1+c % 8).toNat:=by simp [nameL0]
theorem nameL_length (c:Int):(nameL c).length=(1+c % 8).toNat:=by unfold nameL;split <;> simp [nameL0_length]
theorem nameL_ok (c:Int):∀ x∈nameL c,97≤x∧x≤122:=by
 have h0:∀ x∈nameL0 c,97≤x∧x≤122:=fun x hx=>by
  obtain ⟨k,_,rfl⟩:=List.mem_map.mp hx
  (exact qE6)
 intro x hx
 unfold nameL at hx
 split at hx
 ·rcases List.mem_or_eq_of_mem_set hx with h | rfl
  ·exact h0 x h
  ·(exact qEw)
 ·exact h0 x hx
theorem nameBy_ok (c:Int):isNameS (nameBy c)=true:=by
 unfold isNameS nameBy
 have h1:=nameL_length c
 have h2:=nameL_ok c
 simp only [Str.length,List.size_toArray,Bool.and_eq_true,decide_eq_true_eq,List.all_eq_true]
 refine ⟨by exact qFJ h1,fun x hx=>?_⟩
 unfold isL
 exact decide_eq_true (h2 x (by simpa using hx))
noncomputable def RowOk6 (r:Str×Int×Int):Prop:=isNameS r.1=true∧0≤r.2.1∧0≤r.2.2∧0 < r.2.1+r.2.2∧r.2.1 < 10 ^ 60∧r.2.2 < 10 ^ 60
noncomputable def PgOk6 (p:Pg):Prop:=(names p).Nodup∧∀ r∈p,RowOk6 r
theorem PgOk6.ok {p:Pg} (h:PgOk6 p):PgOk p:=⟨h.1,fun r hr=>⟨(h.2 r hr).1,(h.2 r hr).2.1,(h.2 r hr).2.2.1,(h.2 r hr).2.2.2.1⟩⟩
theorem pput_mem_row {p:Pg} {n:Str} {v:Int×Int} {r:Str×Int×Int} (hm:r∈pput p n v):r∈p∨r=(n,v):=by
 unfold pput at hm
 split at hm
 ·obtain ⟨q,hq,rfl⟩:=List.mem_map.mp hm
  split
  ·rename_i e;right;rw [← e]
  ·exact .inl hq
 ·rcases List.mem_append.mp hm with hm | hm
  ·exact .inl hm
  ·exact .inr (List.mem_singleton.mp hm)
theorem pput_ok6 {p:Pg} {n:Str} {v:Int×Int} (h:PgOk6 p) (hr:RowOk6 (n,v)):PgOk6 (pput p n v) :=
 ⟨(pput_ok h.ok ⟨hr.1,hr.2.1,hr.2.2.1,hr.2.2.2.1⟩).1,fun r hm=>(pput_mem_row hm).elim (h.2 r) fun e=>e ▸ hr⟩
theorem PgOk6.nil:PgOk6 []:=⟨List.nodup_nil,fun _ h=>(nomatch h)⟩
theorem pageB_ok6 {p:Pg} (h:PgOk6 p) (hl:p.length≤200):pageB (pgE p)=true:=by
 unfold pageB
 rw [pgE_length,decide_eq_true hl,Bool.true_and,List.all_eq_true]
 intro e he
 obtain ⟨r,hr,rfl⟩:=List.mem_map.mp he
 obtain ⟨h1,h2,h3,h4,h5,h6⟩:=h.2 r hr
 obtain ⟨n,a,b⟩:=r
 simp only [toRow,keyB,shareB] at *
 rw [h1,Bool.true_and,decide_eq_true_eq]
 exact ⟨⟨h2,h5⟩,⟨h3,h6⟩,h4⟩
theorem joins_names (p r:Pg):names (joins p r)=srt (onceS (names p++names r)):=by unfold joins;rw [names_rows]
theorem joins_mem (p r:Pg) (n:Str):n∈names (joins p r)↔n∈names p∨n∈names r:=by rw [joins_names,srt_mem,onceS_mem,List.mem_append]
theorem joins_nodup (p r:Pg):(names (joins p r)).Nodup:=by rw [joins_names];exact srt_nodup (onceS_nodup _)
theorem look_joins (p r:Pg) (n:Str):look (joins p r) n=maxS (look p n) (look r n):=by
 by_cases h:n∈names (joins p r)
 ·have h2:=(look_mem h).2
  obtain ⟨m,hm,e⟩:=List.mem_map.mp h2
  simp only [Prod.mk.injEq] at e
  rw [← e.2,e.1]
 ·rw [look_none h]
  have h':=fun h2=>h ((joins_mem p r n).mpr h2)
  rw [look_none fun h2=>h' (.inl h2),look_none fun h2=>h' (.inr h2)];rfl
noncomputable def SortP (F:Pg):Prop:=(names F).Pairwise (fun a b=>leS a b=true)
theorem joins_sort (p r:Pg):SortP (joins p r):=by unfold SortP;rw [joins_names];exact srt_sorted _
theorem nodup_len {l m:List Str} (h:l.Nodup) (hs:∀ x∈l,x∈m):l.length≤m.length:=by
 induction l generalizing m with
 | nil=>simp
 | cons a t ih =>
  rw [List.nodup_cons] at h
  have ha:=hs a (.head _)
  have:=ih (m:=m.erase a) h.2 fun x hx=>(List.mem_erase_of_ne (fun (e:x=a)=>h.1 (e ▸ hx))).mpr (hs x (.tail _ hx))
  rw [List.length_erase_of_mem ha] at this
  have:1≤m.length:=List.length_pos_of_mem ha
  simp only [List.length_cons]
  (exact qHe ‹_› this)
theorem sum_perm {l m:List Int} (h:l.Perm m):l.sum=m.sum:=by
 induction h with
 | nil=>rfl
 | cons x _ ih=>simp [ih]
 | swap x y l=>simp only [List.sum_cons];(exact qDT)
 | trans _ _ a b=>exact a.trans b
theorem rows_nodup {F:Pg} (h:(names F).Nodup):F.Nodup:=(List.pairwise_map.mp h).imp fun hne e=>hne (congrArg Prod.fst e)
noncomputable abbrev zz:Str:="zzzzzzzz"
theorem lt60 (x:Int):min x (10 ^ 60 - 1) < 10 ^ 60:=Int.lt_of_le_of_lt (Int.min_le_right _ _) (by decide)
theorem pos60 {x:Int} (h:0 < x):0 < min x (10 ^ 60 - 1):=Int.lt_min.mpr ⟨h,by decide⟩
theorem sh_a {v:Int×Int} (h:0≤v.1∧0≤v.2∧0 < v.1+v.2∧v.1 < 10 ^ 60∧v.2 < 10 ^ 60):0≤min (v.1+1) (10 ^ 60 - 1)∧0≤v.2∧0 < min (v.1+1) (10 ^ 60 - 1)+v.2∧min (v.1+1) (10 ^ 60 - 1) < 10 ^ 60∧v.2 < 10 ^ 60 :=
 have p:=pos60 (Int.lt_add_one_of_le h.1)
 ⟨Int.le_of_lt p,h.2.1,Int.add_pos_of_pos_of_nonneg p h.2.1,lt60 _,h.2.2.2.2⟩
theorem sh_b {v:Int×Int} {c:Int} (h:0≤v.1∧0≤v.2∧0 < v.1+v.2∧v.1 < 10 ^ 60∧v.2 < 10 ^ 60) (hc:0 < c):0≤v.1∧0≤min (v.2+c) (10 ^ 60 - 1)∧0 < v.1+min (v.2+c) (10 ^ 60 - 1)∧v.1 < 10 ^ 60∧min (v.2+c) (10 ^ 60 - 1) < 10 ^ 60 :=
 have p:=pos60 (Int.add_pos_of_nonneg_of_pos h.2.1 hc)
 ⟨h.1,Int.le_of_lt p,Int.add_pos_of_nonneg_of_pos h.1 p,h.2.2.2.1,lt60 _⟩
theorem sh_c {v:Int×Int} (h:0≤v.1∧0≤v.2∧0 < v.1+v.2∧v.1 < 10 ^ 60∧v.2 < 10 ^ 60):0≤v.1 / 2∧0≤min (v.2+5) (10 ^ 60 - 1)∧0 < v.1 / 2+min (v.2+5) (10 ^ 60 - 1)∧v.1 / 2 < 10 ^ 60∧min (v.2+5) (10 ^ 60 - 1) < 10 ^ 60 :=
 have p:=pos60 (Int.add_pos_of_nonneg_of_pos h.2.1 (by decide:(0:Int) < 5))
 have d:=Int.ediv_nonneg h.1 (by decide:(0:Int)≤2)
 ⟨d,Int.le_of_lt p,Int.add_pos_of_nonneg_of_pos d p,Int.lt_of_le_of_lt (Int.ediv_le_self 2 h.1) h.2.2.2.1,lt60 _⟩
noncomputable def HandD (τ:List AObj) (k:Nat) (n:Str) (p:Pg) (kn kd:Nat):Prop :=
 τ[k]?=some (.inst 242 kn)∧τ[kn]?=some (.ns [("name",.str n),("heard",.ref kd)])∧τ[kd]?=some (.dict (pgE p) none)
theorem HandD.at_ {τ:List AObj} {k kn kd:Nat} {n:Str} {p:Pg} (h:HandD τ k n p kn kd):HandAt τ k n p kn:=⟨kd,h⟩
theorem HandD.up {τ:List AObj} {k kn kd:Nat} {n:Str} {p:Pg} (more:List AObj) (h:HandD τ k n p kn kd):HandD (τ++more) k n p kn kd:=⟨up_at h.1,up_at h.2.1,up_at h.2.2⟩
theorem ne_of {τ:List AObj} {j k:Nat} {x y:AObj} (h1:τ[j]?=some x) (h2:τ[k]?=some y) (h:x≠y):j≠k:=fun e=>by
 rw [e,h2] at h1;exact h (Option.some.inj h1).symm
noncomputable def pg1 (n:Str) (a b:Int):Pg:=if a=0∧b=0 then [] else [(n,a,b)]
theorem srt_one (n:Str):srt [n]=[n]:=List.perm_singleton.mp (srt_perm [n])
theorem pg1_len (n:Str) (a b:Int):(pg1 n a b).length≤1:=by unfold pg1;split <;> simp
theorem once_two (n:Str):onceS [n,n]=[n]:=by simp [onceS,addS]
theorem joins_pg1 {n:Str} {a b c d:Int} (h:0≤a∧0≤b∧0≤c∧0≤d∧0 < c+d):joins (pg1 n a b) [(n,(look (pg1 n a b) n).1+c,(look (pg1 n a b) n).2+d)]=pg1 n (a+c) (b+d):=by
 have hlk:look (pg1 n a b) n=(a,b):=by
  unfold pg1
  split
  ·rename_i h;rw [h.1,h.2];rfl
  ·simp [look,look?]
 have hn:¬ (a+c=0∧b+d=0):=by exact qEY h
 rw [hlk]
 unfold joins
 have e1:srt (onceS (names (pg1 n a b)++names [(n,a+c,b+d)]))=[n]:=by
  unfold pg1
  split
  ·exact srt_one n
  ·show srt (onceS [n,n])=[n]
   rw [once_two];exact srt_one n
 have e2:look [(n,a+c,b+d)] n=(a+c,b+d):=by simp [look,look?]
 rw [e1]
 simp only [List.map_cons,List.map_nil,hlk,e2,maxS]
 rw [show pg1 n (a+c) (b+d)=[(n,a+c,b+d)] from if_neg hn,Int.max_eq_right (by exact qCB h),Int.max_eq_right (by exact qFS h)]
theorem lackB_nil {r:Str×Int×Int} (h:RowOk r):lackB [] r=true:=by
 obtain ⟨_,h1,h2,h3⟩:=h
 have e:look [] r.1=(0,0):=rfl
 have hn:¬ (r.2.1≤(look [] r.1).1∧r.2.2≤(look [] r.1).2):=by rw [e];dsimp only;(exact qCE h3)
 unfold lackB reach
 rw [decide_eq_false hn];rfl
theorem lacks_self {p:Pg} (h:PgOk p):lacks p p=[]:=by
 unfold lacks
 rw [List.filter_eq_nil_iff]
 intro r hr
 have hr':=(sortedP_mem h.1).mp hr
 unfold lackB reach
 rw [look_get h.1 hr',decide_eq_true ⟨Int.le_refl _,Int.le_refl _⟩];decide
structure R8 (F P:Pg):Prop where
 f:PgOk6 F
 p:PgOk6 P
 lk:∀ n,look F n=look P n
 st:SortP F
section
variable {p r q F P:Pg}
theorem look_ok6 (h:PgOk6 p) (n:Str):0≤(look p n).1∧0≤(look p n).2∧(look p n).1 < 10 ^ 60∧(look p n).2 < 10 ^ 60:=by
 by_cases hn:n∈names p
 ·obtain ⟨_,c,d,_,f,g⟩:=h.2 _ (look_mem hn).2
  exact ⟨c,d,f,g⟩
 ·rw [look_none hn];decide
theorem ok6_max (h:PgOk6 p) (k:PgOk6 r) (nd:(names q).Nodup) (hm:∀ n,n∈names q→n∈names p∨n∈names r) (hl:∀ n,look q n=maxS (look p n) (look r n)):PgOk6 q:=by
 refine ⟨nd,fun x hx=>?_⟩
 have e:=look_get nd hx
 rw [hl] at e
 have h1:=look_ok6 h x.1
 have h2:=look_ok6 k x.1
 obtain ⟨n,u,v⟩:=x
 have hn:isNameS n=true∧(0 < (look p n).1+(look p n).2∨0 < (look r n).1+(look r n).2):=by
  rcases hm n (List.mem_map.mpr ⟨_,hx,rfl⟩) with hn | hn
  ·obtain ⟨c,_,_,d,_⟩:=h.2 _ (look_mem hn).2;exact ⟨c,.inl d⟩
  ·obtain ⟨c,_,_,d,_⟩:=k.2 _ (look_mem hn).2;exact ⟨c,.inr d⟩
 dsimp only at e h1 h2
 generalize look p n=y at *
 generalize look r n=z at *
 unfold maxS at e
 cases e
 refine ⟨hn.1,?_⟩
 replace hn:=hn.2
 clear hx hl hm nd h k
 dsimp only
 (exact qFk h1 h2 hn)
theorem R8.join (h:R8 F P) (k:PgOk6 r):R8 (joins F r) (dueJ P r) :=
 have hd:=look_dueJ_all h.p.ok k.ok
 ⟨ok6_max h.f k (joins_nodup F r) (fun n=>(joins_mem F r n).mp) (look_joins F r),ok6_max h.p k (dueJ_nodup r P h.p.1) (fun n=>(dueJ_names r P n).mp) hd,fun n=>by rw [look_joins,hd,h.lk],joins_sort F r⟩
theorem ok6_mem (h:PgOk6 p) (k:PgOk6 r) (hl:∀ n,look p n=look r n) {x:Str×Int×Int} (hx:x∈p):x∈r:=by
 have e:=look_get h.1 hx
 rw [hl] at e
 by_cases hn:x.1∈names r
 ·have:=(look_mem hn).2;rw [e] at this;exact this
 ·rw [look_none hn] at e
  have:=(h.2 x hx).2.2.2.1
  rw [← e] at this;exact absurd this (by decide)
theorem R8.perm (h:R8 F P):F.Perm P:=(List.perm_ext_iff_of_nodup (rows_nodup h.f.1) (rows_nodup h.p.1)).mpr fun _=>⟨ok6_mem h.f h.p h.lk,ok6_mem h.p h.f fun n=>(h.lk n).symm⟩
theorem R8.sum (h:R8 F P):(nets F).sum=(nets P).sum:=sum_perm (h.perm.map _)
theorem sortedP_perm (hn:(names r).Nodup):(sortedP r).Perm r:=(List.perm_ext_iff_of_nodup (rows_nodup (by rw [names_sortedP];exact srt_nodup hn)) (rows_nodup hn)).mpr fun _=>sortedP_mem hn
theorem lackB_congr (h:∀ n,look p n=look r n):lackB p=lackB r:=by funext x;unfold lackB;rw [h]
theorem R8.count (h:R8 F P) (k:PgOk6 r):(lacks F r).length=(r.filter (lackB P)).length:=by
 unfold lacks
 rw [lackB_congr h.lk]
 exact ((sortedP_perm k.1).filter _).length_eq
theorem R8.same (h:R8 F P) (hl:P.length≤1000):names F=srt (names P)∧(∀ r∈F,r∈P)∧P.length≤1000∧∀ r∈P,isNameS r.1=true :=
 ⟨sorted_unique ((h.perm.map _).trans (srt_perm _).symm) h.st (srt_sorted _),fun _=>ok6_mem h.f h.p h.lk,hl,fun r hr=>(h.p.2 r hr).1⟩
theorem R8.letter (h:R8 F P) (hl:P.length≤1000):names (lacks r F)=srt (names (P.filter (lackB r)))∧(∀ x∈lacks r F,x∈P.filter (lackB r))∧(P.filter (lackB r)).length≤1000∧∀ x∈P.filter (lackB r),isNameS x.1=true :=
 ⟨by rw [lacks_names h.f.1];exact srt_congr ((h.perm.filter _).map _),fun x hx=>(h.perm.filter _).mem_iff.mp (lacks_mem h.f.1 hx),Nat.le_trans (List.length_filter_le ..) hl,fun x hx=>(h.p.2 x (List.mem_filter.mp hx).1).1⟩
theorem perm_same (σ:List AObj) (h:p.Perm r) (hn:(names r).Nodup):VeqOk σ (fun _ _=>true) (pgE p) (pgE r)∧((pgE p).length == (pgE r).length && sameB (fun _ _=>true) (pgE p) (pgE r))=true:=by
 have key:∀ q∈pgE p,∃ v:Int×Int,q.2=shV v∧at? (pgE r) q.1=some (shV v):=fun q hq=>by
  obtain ⟨x,hx,rfl⟩:=List.mem_map.mp hq
  refine ⟨x.2,rfl,?_⟩
  show at? (pgE r) (.s x.1)=_
  rw [at_pg,look?_get hn (h.mem_iff.mp hx)];rfl
 refine ⟨fun q hq y hy=>?_,?_⟩
 ·obtain ⟨v,h1,h2⟩:=key q hq
  rw [h2] at hy;cases hy
  rw [h1]
  exact ⟨.tuple [.int v.1,.int v.2],.tuple [.int v.1,.int v.2],.tup (.cons (.int _) (.cons (.int _) .nil)),.tup (.cons (.int _) (.cons (.int _) .nil)),rfl,rfl,by simp [PyData.depth,PyData.depthAll],by simp [PyData.eqv,PyData.eqvAll]⟩
 ·rw [pgE_length,pgE_length,h.length_eq,beq_self_eq_true,Bool.true_and]
  unfold sameB
  rw [List.all_eq_true]
  intro q hq
  obtain ⟨v,h1,h2⟩:=key q hq
  rw [h2]
theorem R8.all (h:R8 F P):(lacks [] F).Perm P:=by
 unfold lacks
 rw [List.filter_eq_self.mpr fun x hx=>lackB_nil (h.f.ok.2 x ((sortedP_mem h.f.1).mp hx))]
 exact (sortedP_perm h.f.1).trans h.perm
theorem R8.pg1 {n:Str} {a b:Int} (hn:isNameS n=true) (h:0≤a∧0≤b∧a < 10 ^ 60∧b < 10 ^ 60):R8 (Mine.pg1 n a b) (Mine.pg1 n a b):=by
 unfold Mine.pg1
 split
 ·exact ⟨.nil,.nil,fun _=>rfl,.nil⟩
 ·have ok:PgOk6 [(n,a,b)]:=⟨List.nodup_cons.mpr ⟨fun h=>(nomatch h),.nil⟩,fun r hr=>by rw [List.mem_singleton.mp hr];exact ⟨hn,h.1,h.2.1,by dsimp only;exact qCS h ‹_›,h.2.2⟩⟩
  exact ⟨ok,ok,fun _=>rfl,List.pairwise_singleton _ _⟩
theorem pg1_look (n:Str) (a b:Int):look (Mine.pg1 n a b) n=(a,b):=by
 unfold Mine.pg1
 split
 ·rename_i h;rw [h.1,h.2];rfl
 ·simp [look,look?]
end
noncomputable def BadPage (σ:List AObj) (x:V):Prop:=(∃ k es e,x=.ref k∧σ[k]?=some (.dict es e)∧es.length≤100000∧(∀ p∈es,keyLen p.1∧ShareR σ p.2)∧pageB es=false)∨NonDict σ x
theorem put_mem {es:List (Key×V)} {k:Key} {v:V} {p:Key×V} (h:p∈put es k v):p∈es∨p=(k,v):=by
 unfold put at h
 split at h
 ·obtain ⟨q,hq,rfl⟩:=List.mem_map.mp h
  split
  ·rename_i e;exact .inr (by rw [e])
  ·exact .inl hq
 ·rcases List.mem_append.mp h with h | h
  ·exact .inl h
  ·exact .inr (List.mem_singleton.mp h)
theorem put_has (es:List (Key×V)) (k:Key) (v:V):(k,v)∈put es k v:=by
 unfold put
 split
 ·rename_i h
  obtain ⟨q,hq,e⟩:=List.any_eq_true.mp h
  have e':q.1=k:=by simpa using e
  exact List.mem_map.mpr ⟨q,hq,by rw [if_pos e',e']⟩
 ·exact List.mem_append.mpr (.inr (List.mem_singleton.mpr rfl))
theorem put_keys {es:List (Key×V)} {k:Key} {v:V} {x:Key} (h:x∈es.map (·.1)):x∈(put es k v).map (·.1):=by
 obtain ⟨q,hq,rfl⟩:=List.mem_map.mp h
 unfold put
 split
 ·exact List.mem_map.mpr ⟨_,List.mem_map.mpr ⟨q,hq,rfl⟩,by split <;> rfl⟩
 ·exact List.mem_map.mpr ⟨q,List.mem_append.mpr (.inl hq),rfl⟩
theorem put_len (es:List (Key×V)) (k:Key) (v:V):(put es k v).length≤es.length+1:=by
 unfold put;split <;> simp
theorem page_bad {es:List (Key×V)} {p:Key×V} (h:p∈es) (hb:(keyB p.1 && shareB p.2)=false):pageB es=false:=by
 unfold pageB
 rw [Bool.and_eq_false_iff]
 exact .inr (List.all_eq_false.mpr ⟨p,h,by rw [hb];decide⟩)
theorem page_long {es:List (Key×V)} (h:200 < es.length):pageB es=false:=by
 unfold pageB
 rw [decide_eq_false (Nat.not_le.mpr h)];rfl
theorem bad_page {σ:List AObj} {x:V} {Q:V→List AObj→Prop} {X:XT} (h:BadPage σ x) (q:Q (.bool false) σ):P_is_page [x] σ Q X:=by
 rcases h with ⟨k,es,e,rfl,hk,hl,ho,hb⟩ | h
 ·exact .inl ⟨k,es,e,rfl,hk,hl,ho,by rw [hb];exact q⟩
 ·exact .inr ⟨x,rfl,h,q⟩
theorem good_page {σ:List AObj} {kp:Nat} {r:Pg} {e:Option Nat} {Q:V→List AObj→Prop} {X:XT} (hp:σ[kp]?=some (.dict (pgE r) e)) (okr:PgOk6 r) (hr:r.length≤200) (q:Q (.bool true) σ):P_is_page [.ref kp] σ Q X:=by
 refine .inl ⟨_,_,_,rfl,hp,by rw [pgE_length];exact qAn hr,fun e he=>?_,by rw [pageB_ok6 okr hr];exact q⟩
 obtain ⟨x,hx,rfl⟩:=List.mem_map.mp he
 have:=(isNameS_len (okr.2 x hx).1).2
 exact ⟨show x.1.length < 10 ^ 9 by exact qAf this,.good _ _⟩
structure G8 (N:Nat) (es:List (Key×V)):Prop where
 len:es.length≤N
 ok:∀ p∈es,keyLen p.1∧∃ a b,p.2=.tup [.int a,.int b]
theorem G8.pg {p:Pg} (h:PgOk6 p):G8 p.length (pgE p):=⟨by rw [pgE_length];exact Nat.le_refl _,fun q hq=>by
 obtain ⟨x,hx,rfl⟩:=List.mem_map.mp hq
 have:=(isNameS_len (h.2 x hx).1).2
 exact ⟨show x.1.length < 10 ^ 9 by exact qAf this,_,_,rfl⟩⟩
theorem G8.put {N:Nat} {es:List (Key×V)} {x:Str} {a b:Int} (h:G8 N es) (hx:x.length < 10 ^ 9):G8 (N+1) (Mine.put es (.s x) (.tup [.int a,.int b])) :=
 ⟨Nat.le_trans (put_len _ _ _) (Nat.succ_le_succ h.len),fun p hp=>by
  rcases put_mem hp with hp | rfl
  ·exact h.ok p hp
  ·exact ⟨hx,_,_,rfl⟩⟩
theorem G8.mono {N M:Nat} {es:List (Key×V)} (h:G8 N es) (hm:N≤M):G8 M es:=⟨Nat.le_trans h.len hm,h.ok⟩
theorem G8.bad {N:Nat} {es:List (Key×V)} (h:G8 N es) (hN:N≤1000) {τ:List AObj} {k:Nat} {e:Option Nat} (hk:τ[k]?=some (.dict es e)) (hb:pageB es=false):BadPage τ (.ref k) :=
 .inl ⟨k,es,e,rfl,hk,Nat.le_trans h.len (Nat.le_trans hN (by decide)),fun p hp=>⟨(h.ok p hp).1,by obtain ⟨_,a,b,e⟩:=h.ok p hp;rw [e];exact .good a b⟩,hb⟩
theorem G8.badV {N:Nat} {es:List (Key×V)} (h:G8 N es) (hN:N≤999) {τ:List AObj} {k:Nat} {e:Option Nat} {x:Str} {v:V} (hx:x.length < 10 ^ 9) (hv:ShareR τ v) (hb:shareB v=false) (hk:τ[k]?=some (.dict (Mine.put es (.s x) v) e)):BadPage τ (.ref k) :=
 .inl ⟨k,_,e,rfl,hk,Nat.le_trans (put_len _ _ _) (Nat.le_trans (Nat.succ_le_succ (Nat.le_trans h.len hN)) (by decide)),fun p hp=>by
  rcases put_mem hp with hp | rfl
  ·exact ⟨(h.ok p hp).1,by obtain ⟨_,a,b,e⟩:=h.ok p hp;rw [e];exact .good a b⟩
  ·exact ⟨hx,hv⟩,page_bad (put_has _ _ _) (by rw [hb,Bool.and_false])⟩
noncomputable def nq (i:Nat):Str:=sg (97+i % 26)++sg (97+i / 26)++Str.ofString "q"
theorem nq_inj {i j:Nat} (h:nq i=nq j):i=j:=by
 have e:(nq i).cps.toList=(nq j).cps.toList:=by rw [h]
 have h1:([97+i % 26,97+i / 26,113]:List Nat)=[97+j % 26,97+j / 26,113]:=e
 simp only [List.cons.injEq,Nat.add_left_cancel_iff,and_true] at h1
 (exact qHR h1)
theorem nq_len (i:Nat):(nq i).length=3:=rfl
theorem long_page {es:List (Key×V)} (h:∀ j,j < 201→Key.s (nq j)∈es.map (·.1)):pageB es=false:=by
 refine page_long ?_
 have h1:=nodup_len (l:=(List.range 201).map nq) (m:=es.map fun p=>keyS p.1) (List.pairwise_map.mpr (List.nodup_range.imp fun hne e=>hne (nq_inj e))) fun x hx=>by
  obtain ⟨j,hj,rfl⟩:=List.mem_map.mp hx
  obtain ⟨q,hq,e⟩:=List.mem_map.mp (h j (List.mem_range.mp hj))
  exact List.mem_map.mpr ⟨q,hq,by rw [e];rfl⟩
 rw [List.length_map,List.length_map,List.length_range] at h1
 exact h1
noncomputable def PF8 (c:Int) (σ:List AObj) (x:V):Prop:=(c % 5=3∧BadPage σ x)∨(c % 5≠3∧∃ kp r,x=.ref kp∧σ[kp]?=some (.dict (pgE r) none)∧PgOk6 r∧r.length≤200)
structure Inv8 (n:Str) (a b:Int) (N kd:Nat) (τ:List AObj) (p D:Pg):Prop where
 hand:HandAt τ 1 n p 0
 known:τ[kd]?=some (.dict (pgE D) none)
 rel:R8 p D
 len:p.length≤N
 own:look p n=(a,b)
theorem Inv8.up {n:Str} {a b:Int} {N kd:Nat} {τ:List AObj} {p D:Pg} (I:Inv8 n a b N kd τ p D) (more:List AObj):Inv8 n a b N kd (τ++more) p D:=⟨I.hand.up,up_at I.known,I.rel,I.len,I.own⟩
theorem slot_dc:Slot "dict" (Str.ofString "clear") "dict.clear":=F.slot_dict_clear
theorem type_dc:typeOf (.builtin "dict.clear")=pure (.type "method_descriptor"):=F.type_dict_clear
theorem len_4 {vals:List Value} (h:vals.length=4):∃ a b c d,vals=[a,b,c,d]:=by
 rcases vals with _ | ⟨a,_ | ⟨b,_ | ⟨c,_ | ⟨d,_ | ⟨e,r⟩⟩⟩⟩⟩ <;> first | exact ⟨_,_,_,_,rfl⟩ | simp at h
theorem len_5 {vals:List Value} (h:vals.length=5):∃ a b c d e,vals=[a,b,c,d,e]:=by
 rcases vals with _ | ⟨a,_ | ⟨b,_ | ⟨c,_ | ⟨d,_ | ⟨e,_ | ⟨f,r⟩⟩⟩⟩⟩⟩ <;> first | exact ⟨_,_,_,_,_,rfl⟩ | simp at h
structure B8 (n:Str) (kdh kd kp:Nat) (p D r:Pg) (τ:List AObj):Prop where
 hand:HandD τ 1 n p 0 kdh
 known:τ[kd]?=some (.dict (pgE D) none)
 page:τ[kp]?=some (.dict (pgE r) none)
section
variable {n:Str} {kdh kd kp kh:Nat} {p D r:Pg} {τ:List AObj}
theorem B8.up (B:B8 n kdh kd kp p D r τ) (more:List AObj):B8 n kdh kd kp p D r (τ++more):=⟨B.hand.up more,up_at B.known,up_at B.page⟩
theorem B8.clear (B:B8 n kdh kd kp p D r τ) (hH:τ[kh]?=some (.dict (pgE r) none)) (l1:kdh≠kh) (l2:kd≠kh) (l3:kp≠kh):B8 n kdh kd kp p D r (τ.set kh (.dict [] none)):=by
 have key:∀ (j:Nat) (x:AObj),j≠kh→τ[j]?=some x→(τ.set kh (.dict [] none))[j]?=some x:=fun j x h e=>by rw [List.getElem?_set_ne (Ne.symm h)];exact e
 obtain ⟨a,b,c⟩:=B.hand
 exact ⟨⟨key _ _ (ne_of a hH (fun e=>(nomatch e))) a,key _ _ (ne_of b hH (fun e=>(nomatch e))) b,key _ _ l1 c⟩,key _ _ l2 B.known,key _ _ l3 B.page⟩
theorem reach_max {x y:Int×Int} (h:reach x y=true):maxS x y=x:=by
 unfold reach at h
 obtain ⟨h1,h2⟩:=of_decide_eq_true h
 unfold maxS
 rw [Int.max_eq_left h1,Int.max_eq_left h2]
end
inductive P_Hand_letter (xs:List V) (σ:List AObj) (Q:V→List AObj→Prop) (X:XT):Prop
 | mk:∀ R k n p kn x,(XR X R)→(HandAt σ k n p kn)→(p.length≤200)→(xs=[.ref k,x])→(((BadPage σ x∧R 61 σ)∨∃ kp r e,x=.ref kp∧σ[kp]?=some (.dict (pgE r) e)∧PgOk6 r∧r.length≤200∧Q (.ref σ.length) (σ++[.dict (pgE (lacks r p)) none])))→P_Hand_letter xs σ Q X
theorem good_Hand_letter:GoodM (dm pw_uf050040_08 26 6) ["self","page"] :=
 ⟨fun q pm code doc vals h=>(by obtain ⟨a,b,rfl⟩:=len_2 h;rfl),by decide +kernel,by decide +kernel,by decide +kernel,rfl,rfl,rfl⟩
theorem cf_Hand_letter (gl:Gl B mg mb) (bl:Blt B mg mb) (S:Scr B scr nums) (H:HasM B 225 (dm pw_uf050040_08 26 6)) (k_Hand:Cls B 242 ["name","heard"] [("__init__",183),("grown",190),("up",197),("down",204),("page",211),("told",218),("letter",225),("trusts",232),("hear",239)]) (e_P:Err B K 61 (.ref 24 :: vErr)) (g_P:GC B mg "NoPage" (.raw (.ref 61)))
  (c_is_page:CF prog w B mg "is_page" 3 P_is_page)
  (c_lacking:CF prog w B mg "lacking" 3 P_lacking) :
  CM prog w B 225 4 P_Hand_letter:=by
 refine CM_ofx gl H good_Hand_letter ?_
 rintro A pm code doc q₀ L a₀ _ σ Q X hA ⟨R,k,n,p,kn,x,hX,hh,hpl,rfl,hq⟩
 refine ⟨rfl,XR.of hX ?_⟩
 change WX _ _ _ _ _ (_ :: _) ((_,_) :: (_,_) :: []) _ _ _
 obtain ⟨kd,h1,h2,h3⟩:=id hh
 refine X_ifs ?_
 with_reducible refine T_not (T_value (E_cf ‹_› (hA.le (by decide)) (Ec (E_nm (Lt (Lh (En ?_)))))))
 rcases hq with ⟨hb,hR⟩ | ⟨kp,r,e,rfl,hp,okr,hr,q⟩
 ·refine bad_page hb ?_
  with_reducible refine T_b (iY ?_)
  refine X_raise e_P.o g_P hA.handled Sub.nil ?_
  with_reducible refine Ec (E_str (En (An ?_)))
  exact hR
 refine good_page hp okr hr ?_
 with_reducible refine T_b (iN (X_nil (sq_next (X_ret (E_cf ‹_› (hA.le (by decide)) (Ec (E_nm (Lt (Lh (Ec ?_))))))))))
 refine E_attr ?_
 with_reducible refine E_nm (Lh ?_)
 refine A_inst k_Hand h1 h2 (by decide +kernel) ?_
 with_reducible refine Lt (Lh ?_)
 refine ⟨VH.ref,?_⟩
 with_reducible refine En ?_
 refine ⟨_,_,_,_,_,_,hp,h3,by exact qAT hpl,rfl,?_⟩
 exact R_all q
inductive P_Hand_hear (xs:List V) (σ:List AObj) (Q:V→List AObj→Prop) (X:XT):Prop
 | mk:∀ R k n p kn x,(XR X R)→(HandAt σ k n p kn)→(p.length≤50)→(xs=[.ref k,x])→(((BadPage σ x∧R 61 σ)∨∃ kp r e,x=.ref kp∧σ[kp]?=some (.dict (pgE r) e)∧PgOk6 r∧r.length≤200∧((reach (look p n) (look r n)=false∧R 73 σ)∨(reach (look p n) (look r n)=true∧∀ σ' kd',σ.length≤kd'→HandD σ' k n (joins p r) kn kd'→Upd kn σ σ'→Q (.int (lacks p r).length) σ'))))→P_Hand_hear xs σ Q X
theorem good_Hand_hear:GoodM (dm pw_uf050040_08 26 8) ["self","page"] :=
 ⟨fun q pm code doc vals h=>(by obtain ⟨a,b,rfl⟩:=len_2 h;rfl),by decide +kernel,by decide +kernel,by decide +kernel,rfl,rfl,rfl⟩
theorem cf_Hand_hear (gl:Gl B mg mb) (bl:Blt B mg mb) (S:Scr B scr nums) (H:HasM B 239 (dm pw_uf050040_08 26 8)) (k_Hand:Cls B 242 ["name","heard"] [("__init__",183),("grown",190),("up",197),("down",204),("page",211),("told",218),("letter",225),("trusts",232),("hear",239)]) (e_P:Err B K 61 (.ref 24 :: vErr)) (g_P:GC B mg "NoPage" (.raw (.ref 61))) (e_F:Err B K 73 (.ref 24 :: vErr)) (g_F:GC B mg "Forged" (.raw (.ref 73)))
  (c_is_page:CF prog w B mg "is_page" 3 P_is_page)
  (c_Hand_trusts:CM prog w B 232 3 P_Hand_trusts)
  (c_lacking:CF prog w B mg "lacking" 3 P_lacking)
  (c_joined:CF prog w B mg "joined" 3 P_joined) :
  CM prog w B 239 5 P_Hand_hear:=by
 refine CM_ofx gl H good_Hand_hear ?_
 rintro A pm code doc q₀ L a₀ _ σ Q X hA ⟨R,k,n,p,kn,x,hX,hh,hpl,rfl,hq⟩
 refine ⟨rfl,XR.of hX ?_⟩
 change WX _ _ _ _ _ (_ :: _) ((_,_) :: (_,_) :: []) _ _ _
 obtain ⟨kd,h1,h2,h3⟩:=id hh
 refine X_ifs ?_
 with_reducible refine T_not (T_value (E_cf ‹_› (hA.le (by decide)) (Ec (E_nm (Lt (Lh (En ?_)))))))
 rcases hq with ⟨hb,hR⟩ | ⟨kp,r,e,rfl,hp,okr,hr,hq⟩
 ·refine bad_page hb ?_
  with_reducible refine T_b (iY ?_)
  refine X_raise e_P.o g_P hA.handled Sub.nil ?_
  with_reducible refine Ec (E_str (En (An ?_)))
  exact hR
 refine good_page hp okr hr ?_
 with_reducible refine T_b (iN (X_nil (sq_next ?_)))
 refine X_ifs ?_
 with_reducible refine T_not (T_value ?_)
 refine E_mcallv ?_
 with_reducible refine E_nm (Lh ?_)
 refine ⟨.ref 232,GM_inst k_Hand h1 h2 rfl (by kernel_rfl!),c_Hand_trusts.1,?_⟩
 with_reducible refine Ec (E_nm (Lt (Lh (En ?_))))
 refine C_cm c_Hand_trusts (hA.le (by decide)) ⟨k,n,p,kn,kp,r,e,hh,hp,rfl,?_⟩
 rcases hq with ⟨hre,hR⟩ | ⟨hre,q⟩
 ·rw [hre]
  with_reducible refine T_b (iY ?_)
  refine X_raise e_F.o g_F hA.handled Sub.nil ?_
  with_reducible refine Ec (E_str (En (An ?_)))
  exact hR
 rw [hre]
 with_reducible refine T_b (iN (X_nil (sq_next (X_let (E_bi bl.len_ (.builtin _) (Ec (E_cf ‹_› (hA.le (by decide)) (Ec ?_))))))))
 refine E_attr ?_
 with_reducible refine E_nm (Lh ?_)
 refine A_inst k_Hand h1 h2 (by decide +kernel) ?_
 with_reducible refine Lt (Lh ?_)
 refine ⟨VH.ref,?_⟩
 with_reducible refine Ec (E_nm (Lt (Lh (En ?_))))
 refine ⟨_,_,_,_,_,_,h3,hp,by exact qAT hr,rfl,?_⟩
 with_reducible refine En ?_
 refine C_len_dict (es:=pgE (lacks p r)) at_end (by have:=lacks_len (p:=p) okr.1;rw [pgE_length];exact qA6 hr this) ?_
 rw [pgE_length]
 refine X_seta ?_
 with_reducible refine E_cf ‹_› (hA.le (by decide)) (Ec ?_)
 refine E_attr ?_
 with_reducible refine E_nm (Lt (Lh ?_))
 refine A_inst k_Hand (up_at h1) (up_at h2) (by decide +kernel) ?_
 with_reducible refine Lt (Lh ?_)
 refine ⟨VH.ref,?_⟩
 with_reducible refine Ec (E_nm (Lt (Lt (Lh (En ?_)))))
 refine ⟨_,_,_,_,_,_,up_at h3,up_at hp,by exact qB2 hpl hr,rfl,?_⟩
 with_reducible refine E_nm (Lt (Lh ?_))
 have hne:kn≠k:=fun e=>by rw [e,h1] at h2;cases h2
 have hkn:=aLt h2
 refine SA_inst k_Hand (up_at (up_at h1)) (up_at (up_at h2)) (by decide +kernel) (by simp) (PQ_there (by decide +kernel) (PQ_here ?_))
 generalize AObj.dict (pgE (lacks p r)) none=o1
 have g:((σ++[o1]++[AObj.dict (pgE (joins p r)) none]).set kn (.ns [("name",.str n),("heard",.ref (σ++[o1]).length)]))[(σ++[o1]).length]?=some (.dict (pgE (joins p r)) none):=by
  rw [List.getElem?_set_ne (by simp;exact qBf hkn)];exact at_end
 have hk':((σ++[o1]++[AObj.dict (pgE (joins p r)) none]).set kn (.ns [("name",.str n),("heard",.ref (σ++[o1]).length)]))[k]?=some (.inst 242 kn):=by
  rw [List.getElem?_set_ne hne];exact up_at (up_at h1)
 have hn':((σ++[o1]++[AObj.dict (pgE (joins p r)) none]).set kn (.ns [("name",.str n),("heard",.ref (σ++[o1]).length)]))[kn]?=some (.ns [("name",.str n),("heard",.ref (σ++[o1]).length)]):=List.getElem?_set_self (by simp;exact qAv hkn)
 have hu:Upd kn σ ((σ++[o1]++[AObj.dict (pgE (joins p r)) none]).set kn (.ns [("name",.str n),("heard",.ref (σ++[o1]).length)])):=fun j x hj' hx=>by
  rw [List.getElem?_set_ne (Ne.symm hj')];exact up_at (up_at hx)
 generalize (σ++[o1]++[AObj.dict (pgE (joins p r)) none]).set kn (.ns [("name",.str n),("heard",.ref (σ++[o1]).length)])=τ at g hk' hn' hu ⊢
 have hle:σ.length≤(σ++[o1]).length:=by rw [List.length_append];exact Nat.le_add_right _ _
 generalize (σ++[o1]).length=kd' at g hn' hle ⊢
 with_reducible refine X_ret (E_nm (Lh ?_))
 exact R_all (q τ kd' hle ⟨hk',hn',g⟩ hu)
noncomputable def cellAt (nums:List Int) (k:Int):Int:=if k < nums.length then nums.getD k.toNat 0 else 0
theorem good_cell_at:Good (dr pw_uf050040_08 28) ["_law_script","_law_k"] :=
 ⟨fun pm code doc vals h=>(by obtain ⟨a,b,rfl⟩:=len_2 h;rfl),by decide +kernel,by decide +kernel,by decide +kernel,rfl,rfl,rfl⟩
theorem cf_cell_at (gl:Gl B mg mb) (bl:Blt B mg mb) (S:Scr B scr nums) (H:HasF B mg (dr pw_uf050040_08 28)) :
  CF prog w B mg "_law_cell_at" 1 (fun xs σ Q X=>∃ k,xs=[.raw (.ref scr),.int k]∧0≤k∧Q (.int (cellAt nums k)) σ):=by
 refine CF_of gl H good_cell_at ?_
 rintro A pm code doc L a₀ _ σ Q X hA ⟨k,rfl,hk,q⟩
 refine ⟨rfl,?_⟩
 change WX _ _ _ _ _ (_ :: _) ((_,_) :: (_,_) :: []) _ _ _
 refine X_ifs ?_
 with_reducible refine T_cmp1 (E_nm (Lt (Lh (E_bi bl.len_ (.builtin _) (Ec (E_nm (Lh (En (C_len_scr ‹_› (O_lt (T_b ?_)))))))))))
 refine iteD (fun h=>?_) (fun h=>?_)
 ·with_reducible refine X_ret (E_sub (E_nm (Lh (E_nm (Lt (Lh ?_))))))
  refine S_scr S hk h ?_
  with_reducible refine sq_ret ?_
  refine R_all ?_
  simpa [cellAt,h] using q
 ·with_reducible refine X_nil (sq_next (X_ret (E_int ?_)))
  refine R_all ?_
  simpa [cellAt,h] using q
noncomputable abbrev P_whole:List V→List AObj→(V→List AObj→Prop)→XT→Prop:=(fun xs σ Q X=>∃ c,xs=[.int c]∧Q (.bool true) σ)
theorem good_whole:Good (dr pw_uf050040_08 29) ["_law_found"] :=
 ⟨fun pm code doc vals h=>(by obtain ⟨a,rfl⟩:=len_1 h;rfl),by decide +kernel,by decide +kernel,by decide +kernel,rfl,rfl,rfl⟩
theorem cf_whole (gl:Gl B mg mb) (bl:Blt B mg mb) (S:Scr B scr nums) (H:HasF B mg (dr pw_uf050040_08 29)) :
  CF prog w B mg "_law_whole" 1 P_whole:=by
 refine CF_of gl H good_whole ?_
 rintro A pm code doc L a₀ _ σ Q X hA ⟨c,rfl,q⟩
 refine ⟨rfl,?_⟩
 change WX _ _ _ _ _ (_ :: _) ((_,_) :: []) _ _ _
 with_reducible refine X_ret ?_
 refine E_boolop ?_
 with_reducible refine Bo_and (E_bi bl.isinstance_ (.builtin _) (Ec (E_nm (Lh (Ec (E_nm (Lt (LQ_nil (N_bi bl.int_ (En (isi_int (isi_int_int) (T_b (iteT (Bo_one (E_un (E_bi bl.isinstance_ (.builtin _) (Ec (E_nm (Lh (Ec (E_nm (Lt (LQ_nil (N_bi bl.bool_ (En (isi_int (isi_int_bool) (O_not ?_)))))))))))))))))))))))))))
 exact R_all q
noncomputable def numBy (c:Int):Int:=if c % 5 < 2 then c / 5 % 3 * (c % 5) else if c % 5=2 then c / 5 % 1000 else if c % 5=3 then c / 5 % 10 ^ 60 else 10 ^ 60 - 1 - c / 5 % 1000
noncomputable abbrev P_number_by:List V→List AObj→(V→List AObj→Prop)→XT→Prop:=(fun xs σ Q X=>∃ c,xs=[.int c]∧Q (.int (numBy c)) σ)
theorem good_number_by:Good (dr pw_uf050040_08 30) ["_law_cell"] :=
 ⟨fun pm code doc vals h=>(by obtain ⟨a,rfl⟩:=len_1 h;rfl),by decide +kernel,by decide +kernel,by decide +kernel,rfl,rfl,rfl⟩
theorem cf_number_by (gl:Gl B mg mb) (bl:Blt B mg mb) (S:Scr B scr nums) (H:HasF B mg (dr pw_uf050040_08 30)) :
  CF prog w B mg "_law_number_by" 1 P_number_by:=by
 refine CF_of gl H good_number_by ?_
 rintro A pm code doc L a₀ _ σ Q X hA ⟨c,rfl,q⟩
 refine ⟨rfl,?_⟩
 change WX _ _ _ _ _ (_ :: _) ((_,_) :: []) _ _ _
 unfold numBy at q
 with_reducible refine X_let (E_bin (E_nm (Lh (E_int (O_mod ?_ (by exact qAA))))))
 refine X_ifs ?_
 with_reducible refine T_cmp1 (E_nm (Lh (E_int (O_lt (T_b ?_)))))
 refine iteD (fun h=>?_) (fun h=>?_)
 ·rw [if_pos h] at q
  with_reducible refine X_ret (E_bin (E_bin (E_bin (E_nm (Lt (Lh (E_int (O_div (E_int (O_mod (E_nm (Lh (O_mul (sq_ret ?_) (by first | exact .inl (by omega) | exact .inr (by omega))))) (by exact qAc))) (by exact qAA) (by decide +kernel)))))))))
  exact R_all q
 ·rw [if_neg h] at q
  with_reducible refine X_nil (sq_next ?_)
  refine X_ifs ?_
  with_reducible refine T_cmp1 (E_nm (Lh (E_int (O_eq (T_b ?_)))))
  refine iteD (fun h=>?_) (fun h=>?_)
  ·rw [if_pos h] at q
   with_reducible refine X_ret (E_bin (E_bin (E_nm (Lt (Lh (E_int (O_div (E_int (O_mod (sq_ret ?_) (by exact qBH))) (by exact qAA) (by decide +kernel))))))))
   exact R_all q
  ·rw [if_neg h] at q
   with_reducible refine X_nil (sq_next ?_)
   refine X_ifs ?_
   with_reducible refine T_cmp1 (E_nm (Lh (E_int (O_eq (T_b ?_)))))
   refine iteD (fun h=>?_) (fun h=>?_)
   ·rw [if_pos h] at q
    with_reducible refine X_ret (E_bin (E_bin (E_nm (Lt (Lh (E_int (O_div (E_bin (E_int (E_int (O_pow60 (O_mod (sq_ret ?_) (by exact qC9)))))) (by exact qAA) (by decide +kernel))))))))
    exact R_all q
   ·rw [if_neg h] at q
    with_reducible refine X_nil (sq_next (X_ret (E_bin (E_bin (E_bin (E_int (E_int (O_pow60 (E_int (O_sub (E_bin (E_bin (E_nm (Lt (Lh (E_int (O_div (E_int (O_mod (O_sub ?_) (by exact qBH))) (by exact qAA) (by decide +kernel))))))))))))))))))
    exact R_all q
inductive P_share (xs:List V) (σ:List AObj) (Q:V→List AObj→Prop) (X:XT):Prop
 | mk:∀ a b c d,(xs=[.tup [.int a,.int b],.tup [.int c,.int d]])→(Q (.bool (decide (a=c∧b=d))) σ)→P_share xs σ Q X
theorem good_share:Good (dr pw_uf050040_08 31) ["_law_found","_law_due"] :=
 ⟨fun pm code doc vals h=>(by obtain ⟨a,b,rfl⟩:=len_2 h;rfl),by decide +kernel,by decide +kernel,by decide +kernel,rfl,rfl,rfl⟩
theorem cf_share (gl:Gl B mg mb) (bl:Blt B mg mb) (S:Scr B scr nums) (H:HasF B mg (dr pw_uf050040_08 31))
  (c_whole:CF prog w B mg "_law_whole" 1 P_whole) :
  CF prog w B mg "_law_share" 2 P_share:=by
 refine CF_of gl H good_share ?_
 rintro A pm code doc L a₀ _ σ Q X hA ⟨a,b,c,d,rfl,q⟩
 refine ⟨rfl,?_⟩
 change WX _ _ _ _ _ (_ :: _) ((_,_) :: (_,_) :: []) _ _ _
 refine X_ifs ?_
 with_reducible (refine T_bool ?_;refine Ts_or ?_;refine T_not ?_;refine T_value ?_;refine E_bi bl.isinstance_ (.builtin _) ?_;refine Ec ?_;refine E_nm ?_;refine Lh ?_;refine Ec ?_;refine E_nm ?_;refine Lt ?_;refine Lt ?_;refine LQ_nil ?_;refine N_bi bl.tuple_ ?_;refine En ?_;refine isi_tup (isi_tuple_tuple) ?_;refine T_b ?_;refine iN ?_;refine Ts_or ?_;refine T_cmp1 ?_;refine E_bi bl.len_ (.builtin _) ?_;refine Ec ?_;refine E_nm ?_;refine Lh ?_;refine En ?_;refine C_len_t2 ?_;refine E_int ?_;refine O_ne ?_;refine T_b ?_;refine iN ?_;refine Ts_or_nil ?_;refine iteF ?_;refine X_nil ?_;refine sq_next ?_;refine X_ret ?_)
 refine E_boolop ?_
 with_reducible (refine Bo_and ?_;refine E_cf ‹_› (hA.le (by decide)) ?_;refine Ec ?_;refine E_sub ?_;refine E_nm ?_;refine Lh ?_;refine E_int ?_;refine S_t0 ?_;refine En ?_;refine ⟨_,rfl,?_⟩;refine T_b ?_;refine iteT ?_;refine Bo_and ?_;refine E_cf ‹_› (hA.le (by decide)) ?_;refine Ec ?_;refine E_sub ?_;refine E_nm ?_;refine Lh ?_;refine E_int ?_;refine S_t1 ?_;refine En ?_;refine ⟨_,rfl,?_⟩;refine T_b ?_;refine iteT ?_;refine Bo_and ?_;refine E_cmp1 ?_;refine E_sub ?_;refine E_nm ?_;refine Lh ?_;refine E_int ?_;refine S_t0 ?_;refine E_sub ?_;refine E_nm ?_;refine Lt ?_;refine Lh ?_;refine E_int ?_;refine S_t0 ?_;refine O_eq ?_;refine T_b ?_)
 refine iteD (fun h=>?_) (fun h=>?_)
 ·with_reducible refine Bo_one (E_cmp1 (E_sub (E_nm (Lh (E_int (S_t1 (E_sub (E_nm (Lt (Lh (E_int (S_t1 (O_eq ?_)))))))))))))
  refine R_all ?_
  simpa [h] using q
 ·refine R_all ?_
  simpa [h] using q
noncomputable abbrev P_name_by:List V→List AObj→(V→List AObj→Prop)→XT→Prop:=(fun xs σ Q X=>∃ c,xs=[.int c]∧Q (.str (nameBy c)) σ)
theorem good_name_by:Good (dr pw_uf050040_08 32) ["_law_cell"] :=
 ⟨fun pm code doc vals h=>(by obtain ⟨a,rfl⟩:=len_1 h;rfl),by decide +kernel,by decide +kernel,by decide +kernel,rfl,rfl,rfl⟩
theorem cf_name_by (gl:Gl B mg mb) (bl:Blt B mg mb) (S:Scr B scr nums) (H:HasF B mg (dr pw_uf050040_08 32)) :
  CF prog w B mg "_law_name_by" 2 P_name_by:=by
 refine CF_of gl H good_name_by ?_
 rintro A pm code doc L a₀ _ σ Q X hA ⟨c,rfl,q⟩
 refine ⟨rfl,?_⟩
 change WX _ _ _ _ _ (_ :: _) ((_,_) :: []) _ _ _
 with_reducible refine X_letc (E_str (X_letc (E_bin (E_int (E_bin (E_bin (E_nm (Lt (Lh (E_int (O_div (E_int (O_mod (O_add ?_) (by exact qFv))) (by exact qDz) (by decide +kernel))))))))))))
 refine X_compl [("_law_signs",.str (Str.ofString "abcdefghijklmnopqrstuvwxyz")),("_law_step",.int (1+c / 208 % 25)),("_law_cell",.int c)] (by kernel_rfl!) (by with_reducible (refine Sub.c ?_;refine Lt ?_;refine Lh ?_;refine ⟨rfl,?_⟩;refine Sub.c ?_;refine Lh ?_;refine ⟨rfl,?_⟩;refine Sub.c ?_;refine Lt ?_;refine Lt ?_;refine Lh ?_;refine ⟨rfl,?_⟩;exact Sub.nil)) (by kernel_rfl!) env_apart ?_
 with_reducible refine E_bi bl.range_ (.type _) (Ec (E_bin (E_int (E_bin (E_nm (Lt (Lt (Lh (E_int (O_mod (O_add (En (C_range1 ?_))) (by exact qAp)))))))))))
 refine ⟨σ,_,_,_,fun i=>.str (sg (97+((c / 8+(0+(i:Int)) * (1+c / 208 % 25)) % 26).toNat)),It_range hA.handled (by exact qBu) (by exact qBj) (by exact qEp) (by exact qEi),small_size (by exact qDU),fun _=>trivial,fun D i hi=>?_,?_⟩
 ·with_reducible refine E_sub (E_nm (Lt (Lh (E_bin (E_bin (E_bin (E_nm (Lt (Lt (Lt (Lh (E_int (O_div (E_bin (E_nm (Lh (E_nm (Lt (Lt (Lh (O_mul (O_add (E_int (O_mod ?_ (by exact qAG)))) (by first | exact .inl (by omega) | exact .inr (by omega)))))))))) (by exact qAp) (by decide +kernel))))))))))))))
  refine S_str (by exact qCb) (by rw [show (Str.ofString "abcdefghijklmnopqrstuvwxyz").cps.size=26 from letters_size];exact qGj) (by exact qGc) ?_
  exact ⟨congrArg V.str (letters_sign (by exact qGi)),rfl⟩
 have e0:(List.range (1+c % 8 - 0).toNat).map (fun (i:Nat)=>V.str (sg (97+((c / 8+(0+(i:Int)) * (1+c / 208 % 25)) % 26).toNat)))=((nameL0 c).map sg).map V.str:=by simp [nameL0,List.map_map,Function.comp_def]
 rw [e0]
 have hl:=nameL0_length c
 have hl2:=nameL_length c
 have fin:∀ ρ,retQ σ Q (.ret (.str (Txt.join (Str.ofString "") ((nameL c).map sg)))) ρ (σ++[.list (((nameL c).map sg).map V.str)]):=fun ρ=>by
  rw [join_sg]
  exact R_none (by simp [V.lt]) q
 refine X_ifs ?_
 with_reducible refine T_cmp1 (E_bin (E_bin (E_nm (Lt (Lt (Lt (Lh (E_int (O_div (E_int (O_mod (E_int (O_eq (T_b ?_))) (by exact qAQ))) (by exact qDJ) (by decide +kernel))))))))))
 refine iteD (fun h1=>?_) (fun h1=>?_)
 ·with_reducible refine X_set (E_sub (E_nm (Lt (Lt (Lh (E_bin (E_bin (E_nm (Lt (Lt (Lt (Lh (E_int (O_div (E_int (O_mod ?_ (by exact qAG))) (by exact qHV) (by decide +kernel)))))))))))))))
  refine S_str (by exact qHX) (by rw [show (Str.ofString "abcdefghijklmnopqrstuvwxyz").cps.size=26 from letters_size];exact qD3) (by exact qFP) ?_
  rw [show signAt (Str.ofString "abcdefghijklmnopqrstuvwxyz") (c / 83200 % 26).toNat=_ from letters_sign (by exact qFs)]
  with_reducible refine E_nm (Lh (E_bin (E_bin (E_nm (Lt (Lt (Lt (Lh (E_int (O_div (E_bi bl.len_ (.builtin _) (Ec (E_nm (Lh (En ?_))))) (by exact qEn) (by decide +kernel)))))))))))
  refine C_len_list at_end (by simp;exact qFw hl) ?_
  have hlp:(0:Int) < ((((nameL0 c).map sg).map V.str).length:Int):=by simp;(exact qDM hl)
  refine O_mod ?_ hlp
  have hm:=Int.emod_lt_of_pos (c / 10400) hlp
  have hm0:=Int.emod_nonneg (c / 10400) (Int.ne_of_gt hlp)
  refine P_list at_end hm0 hm (by simp at hm ⊢;exact qHL hl hm) ?_
  rw [set_end]
  have e:(((nameL0 c).map sg).map V.str).set (c / 10400 % ((((nameL0 c).map sg).map V.str).length:Int)).toNat (V.str (sg (97+(c / 83200 % 26).toNat)))=((nameL c).map sg).map V.str:=by
   unfold nameL;rw [if_pos h1];simp [List.map_set]
  rw [e]
  with_reducible refine X_nil (sq_next (X_ret (E_mcall (name:=Str.ofString "join") (id:="str.join") (E_str ⟨GM_str F.slot_str_join F.type_str_join,(Ec (E_nm (Lh (En ?_))))⟩))))
  refine C_join at_end (joinOk_sg _ (by exact qBM hl2)) ?_
  exact fin _
 ·have e:((nameL0 c).map sg).map V.str=((nameL c).map sg).map V.str:=by unfold nameL;rw [if_neg h1]
  rw [e]
  with_reducible refine X_nil (sq_next (X_ret (E_mcall (name:=Str.ofString "join") (id:="str.join") (E_str ⟨GM_str F.slot_str_join F.type_str_join,(Ec (E_nm (Lh (En ?_))))⟩))))
  refine C_join at_end (joinOk_sg _ (by exact qBM hl2)) ?_
  exact fin _
noncomputable abbrev P_mixed:List V→List AObj→(V→List AObj→Prop)→XT→Prop:=(fun xs σ Q X=>∃ c k,xs=[.int c,.int k]∧Q (.int (mixed c k)) σ)
theorem good_mixed:Good (dr pw_uf050040_08 33) ["_law_cell","_law_k"] :=
 ⟨fun pm code doc vals h=>(by obtain ⟨a,b,rfl⟩:=len_2 h;rfl),by decide +kernel,by decide +kernel,by decide +kernel,rfl,rfl,rfl⟩
theorem cf_mixed (gl:Gl B mg mb) (bl:Blt B mg mb) (S:Scr B scr nums) (H:HasF B mg (dr pw_uf050040_08 33)) :
  CF prog w B mg "_law_mixed" 1 P_mixed:=by
 refine CF_of gl H good_mixed ?_
 rintro A pm code doc L a₀ _ σ Q X hA ⟨c,k,rfl,q⟩
 refine ⟨rfl,?_⟩
 change WX _ _ _ _ _ (_ :: _) ((_,_) :: (_,_) :: []) _ _ _
 with_reducible refine X_ret (E_bin (E_bin (E_bin (E_bin (E_bin (E_nm (Lh (E_int (O_mod (E_bin (E_int (E_nm (Lt (Lh (O_mul (O_add (E_int (O_add (E_int (O_mul (E_int (O_mod ?_ (by exact qFh))) (by first | exact .inl (by omega) | exact .inr (by omega))))))) (by first | exact .inl (by omega) | exact .inr (by omega)))))))) (by exact qFW))))))))))
 exact R_all q
theorem numBy_ok (c:Int):0≤numBy c∧numBy c < 10 ^ 60:=by
 unfold numBy
 split
 ·rename_i h
  have h1:c % 5=0∨c % 5=1:=by exact qFB h
  rcases h1 with h1 | h1 <;> rw [h1] <;> omega
 ·split
  ·(exact qE7)
  ·split
   ·exact ⟨Int.emod_nonneg _ (by decide),Int.emod_lt_of_pos _ (by decide)⟩
   ·(exact qGe)
inductive P_page_by (xs:List V) (σ:List AObj) (Q:V→List AObj→Prop) (X:XT):Prop
 | mk:∀ a b n,(xs=[.int a,.int b,.int n])→((0≤n∧n≤200))→(∀ page:Pg,PgOk6 page→(page.length:Int)≤n→Q (.ref σ.length) (σ++[.dict (pgE page) none]))→P_page_by xs σ Q X
theorem good_page_by:Good (dr pw_uf050040_08 34) ["_law_names","_law_shares","_law_size"] :=
 ⟨fun pm code doc vals h=>(by obtain ⟨a,b,c,rfl⟩:=len_3 h;rfl),by decide +kernel,by decide +kernel,by decide +kernel,rfl,rfl,rfl⟩
theorem cf_page_by (gl:Gl B mg mb) (bl:Blt B mg mb) (S:Scr B scr nums) (H:HasF B mg (dr pw_uf050040_08 34))
  (c_number_by:CF prog w B mg "_law_number_by" 1 P_number_by)
  (c_mixed:CF prog w B mg "_law_mixed" 1 P_mixed)
  (c_name_by:CF prog w B mg "_law_name_by" 2 P_name_by) :
  CF prog w B mg "_law_page_by" 3 P_page_by:=by
 refine CF_of gl H good_page_by ?_
 rintro A pm code doc L a₀ _ σ Q X hA ⟨a,b,n,rfl,⟨hn0,hn⟩,q⟩
 refine ⟨rfl,?_⟩
 change WX _ _ _ _ _ (_ :: _) ((_,_) :: (_,_) :: (_,_) :: []) _ _ _
 with_reducible refine X_let (E_dict0 ?_)
 refine X_fors ?_
 with_reducible (refine E_bi bl.range_ (.type _) ?_;refine Ec ?_;refine E_nm ?_;refine Lt ?_;refine Lt ?_;refine Lt ?_;refine Lh ?_;refine En ?_;refine C_range1 ?_)
 refine ForG.mk (ι:=Pg) (fun i g=>PgOk6 g∧g.length≤i) (fun _ _=>[("_law_page",.ref σ.length),("_law_names",.int a),("_law_shares",.int b),("_law_size",.int n)]) (fun _ g=>σ++[.dict (pgE g) none]) (It_range hA.handled (by exact qBu) (by exact qBj) (by exact qFR hn0) (by exact qEL hn)) [] ⟨.nil,Nat.le_refl _⟩ rfl trivial (by with_reducible (refine Sub.c ?_;refine Lh ?_;refine ⟨rfl,?_⟩;refine Sub.c ?_;refine Lt ?_;refine Lh ?_;refine ⟨rfl,?_⟩;refine Sub.c ?_;refine Lt ?_;refine Lt ?_;refine Lh ?_;refine ⟨rfl,?_⟩;refine Sub.c ?_;refine Lt ?_;refine Lt ?_;refine Lt ?_;refine Lh ?_;refine ⟨rfl,?_⟩;exact Sub.nil)) ?_ ?_
 ·rintro i g hi ⟨hok,hg⟩ -
  with_reducible (refine X_let ?_;refine E_tuple ?_;refine Ec ?_;refine E_cf ‹_› (hA.le (by decide)) ?_;refine Ec ?_;refine E_cf ‹_› (hA.le (by decide)) ?_;refine Ec ?_;refine E_nm ?_;refine Lt ?_;refine Lt ?_;refine Lt ?_;refine Lh ?_;refine Ec ?_;refine E_bin ?_;refine E_int ?_;refine E_nm ?_;refine Lh ?_;refine O_mul ?_ (by first | exact .inl (by omega) | exact .inr (by omega));refine En ?_;refine ⟨_,_,rfl,?_⟩;refine En ?_;refine ⟨_,rfl,?_⟩;refine Ec ?_;refine E_cf ‹_› (hA.le (by decide)) ?_;refine Ec ?_;refine E_cf ‹_› (hA.le (by decide)) ?_;refine Ec ?_;refine E_nm ?_;refine Lt ?_;refine Lt ?_;refine Lt ?_;refine Lh ?_;refine Ec ?_;refine E_bin ?_;refine E_bin ?_;refine E_int ?_;refine E_nm ?_;refine Lh ?_;refine O_mul ?_ (by first | exact .inl (by omega) | exact .inr (by omega));refine E_int ?_;refine O_add ?_;refine En ?_;refine ⟨_,_,rfl,?_⟩;refine En ?_;refine ⟨_,rfl,?_⟩;refine En ?_;refine An ?_)
  have n1:=numBy_ok (mixed b (2 * (0+(i:Int))))
  have n2:=numBy_ok (mixed b (2 * (0+(i:Int))+1))
  refine X_ifj (ι:=Int×Int) (fun x=>0≤x.1∧0≤x.2∧0 < x.1+x.2∧x.1 < 10 ^ 60∧x.2 < 10 ^ 60) (fun x=>[("_law_share_here",shV x),("_law_k",.int (0+(i:Int))),("_law_page",.ref σ.length),("_law_names",.int a),("_law_shares",.int b),("_law_size",.int n)]) (fun _=>σ++[.dict (pgE g) none]) ?_ ?_
  ·with_reducible refine T_cmp1 (E_nm (Lh (E_tuple (Ec (E_int (Ec (E_int (En (An ?_)))))))))
   refine O_eq_pair (by have:=hA.units;show _ < 9900;exact qAW this) ?_
   with_reducible refine T_b ?_
   refine iteD (fun h=>?_) (fun h=>?_)
   ·with_reducible refine X_let (E_tuple (Ec (E_int (Ec (E_int (En (An (X_nil ?_))))))))
    exact J_next (1,0) (by decide) rfl (by with_reducible (refine Sub.c (Lh ⟨rfl,(Sub.c (Lt (Lt (Lh ⟨rfl,(Sub.c (Lt (Lt (Lt (Lh ⟨rfl,(Sub.c (Lt (Lt (Lt (Lt (Lh ⟨rfl,(Sub.c (Lt (Lt (Lt (Lt (Lt (Lh ⟨rfl,(Sub.c (Lt (Lt (Lt (Lt (Lt (Lt (Lh ⟨rfl,?_⟩))))))))⟩)))))))⟩))))))⟩)))))⟩))))⟩);exact Sub.nil))
   ·with_reducible refine X_nil ?_
    exact J_next (numBy (mixed b (2 * (0+(i:Int)))),numBy (mixed b (2 * (0+(i:Int))+1))) (by dsimp only;exact qCL n1 n2 h) rfl (by with_reducible (refine Sub.c ?_;refine Lh ?_;refine ⟨rfl,?_⟩;refine Sub.c ?_;refine Lt ?_;refine Lh ?_;refine ⟨rfl,?_⟩;refine Sub.c ?_;refine Lt ?_;refine Lt ?_;refine Lh ?_;refine ⟨rfl,?_⟩;refine Sub.c ?_;refine Lt ?_;refine Lt ?_;refine Lt ?_;refine Lh ?_;refine ⟨rfl,?_⟩;refine Sub.c ?_;refine Lt ?_;refine Lt ?_;refine Lt ?_;refine Lt ?_;refine Lh ?_;refine ⟨rfl,?_⟩;refine Sub.c ?_;refine Lt ?_;refine Lt ?_;refine Lt ?_;refine Lt ?_;refine Lt ?_;refine Lh ?_;refine ⟨rfl,?_⟩;exact Sub.nil))
  ·rintro x hx
   try dsimp only
   with_reducible (refine X_set ?_;refine E_nm ?_;refine Lh ?_;refine E_nm ?_;refine Lt ?_;refine Lt ?_;refine Lh ?_;refine E_cf ‹_› (hA.le (by decide)) ?_;refine Ec ?_;refine E_cf ‹_› (hA.le (by decide)) ?_;refine Ec ?_;refine E_nm ?_;refine Lt ?_;refine Lt ?_;refine Lt ?_;refine Lh ?_;refine Ec ?_;refine E_nm ?_;refine Lt ?_;refine Lh ?_;refine En ?_;refine ⟨_,_,rfl,?_⟩;refine En ?_;refine ⟨_,rfl,?_⟩)
   refine P_dict (key:=.s _) at_end (small_size (by rw [pgE_length];exact qE8 hn hi hg)) ?_
   rw [set_end,put_pg]
   with_reducible refine X_nil ?_
   refine TJ_next (pput g (nameBy (mixed a (0+(i:Int)))) x) ⟨pput_ok6 hok ⟨nameBy_ok _,hx⟩,?_⟩ rfl trivial (by with_reducible (refine Sub.c (Lt (Lt (Lh ⟨rfl,(Sub.c (Lt (Lt (Lt (Lh ⟨rfl,(Sub.c (Lt (Lt (Lt (Lt (Lh ⟨rfl,(Sub.c (Lt (Lt (Lt (Lt (Lt (Lh ⟨rfl,?_⟩)))))))⟩))))))⟩)))))⟩)));exact Sub.nil))
   have:=pput_len g (nameBy (mixed a (0+(i:Int)))) x
   (exact qB6 hg this)
 ·rintro g ⟨hok,hg⟩ -
  with_reducible refine X_ret (E_nm (Lh ?_))
  exact R_all (q g hok (by exact qCs hn0 hg))
theorem twin_ok {x:Str} (h:isNameS x=true) {a c:Nat} (ha:a < x.length) (hc:c < 26):isNameS ((⟨(x.cps.toList.take a).toArray⟩:Str)++sg (97+c)++⟨(x.cps.toList.drop (a+1)).toArray⟩)=true:=by
 have e:(⟨(x.cps.toList.take a).toArray⟩:Str)++sg (97+c)++⟨(x.cps.toList.drop (a+1)).toArray⟩=(⟨(x.cps.toList.take a++(97+c) :: x.cps.toList.drop (a+1)).toArray⟩:Str):=by
  show (⟨(x.cps.toList.take a).toArray++#[97+c]++(x.cps.toList.drop (a+1)).toArray⟩:Str)=_
  simp
 rw [e]
 have hl:=isNameS_len h
 simp only [Str.length] at ha hl
 refine isNameS_of (by simp;exact qFu) (by simp;exact qDH ha hl) fun y hy=>?_
 rcases List.mem_append.mp hy with hy | hy
 ·exact isNameS_all h y (List.mem_of_mem_take hy)
 ·rcases List.mem_cons.mp hy with rfl | hy
  ·unfold isL;exact decide_eq_true (by exact qHk hc)
  ·exact isNameS_all h y (List.mem_of_mem_drop hy)
theorem twin_len (x:Str) (a c:Nat):((⟨(x.cps.toList.take a).toArray⟩:Str)++sg (97+c)).length≤x.length+1:=by
 show ((x.cps.toList.take a).toArray++#[97+c]).size≤_
 simp [Str.length];(exact qHQ)
inductive P_near_by (xs:List V) (σ:List AObj) (Q:V→List AObj→Prop) (X:XT):Prop
 | mk:∀ k p e c,(σ[k]?=some (.dict (pgE p) e))→(PgOk6 p)→(p.length≤200)→(xs=[.ref k,.int c])→(∀ other:Pg,PgOk6 other→other.length≤2 * p.length→Q (.ref σ.length) (σ++[.dict (pgE other) none]))→P_near_by xs σ Q X
theorem good_near_by:Good (dr pw_uf050040_08 35) ["_law_page","_law_cell"] :=
 ⟨fun pm code doc vals h=>(by obtain ⟨a,b,rfl⟩:=len_2 h;rfl),by decide +kernel,by decide +kernel,by decide +kernel,rfl,rfl,rfl⟩
theorem cf_near_by (gl:Gl B mg mb) (bl:Blt B mg mb) (S:Scr B scr nums) (H:HasF B mg (dr pw_uf050040_08 35))
  (c_mixed:CF prog w B mg "_law_mixed" 1 P_mixed) :
  CF prog w B mg "_law_near_by" 3 P_near_by:=by
 refine CF_of gl H good_near_by ?_
 rintro A pm code doc L a₀ _ σ Q X hA ⟨k,p,e,c,hk,hpo,hpl,rfl,q⟩
 refine ⟨rfl,?_⟩
 change WX _ _ _ _ _ (_ :: _) ((_,_) :: (_,_) :: []) _ _ _
 have hkl:=at_len hk
 with_reducible refine X_let (E_dict0 ?_)
 refine X_fore (ι:=Pg) (k:=k) (es:=pgE p) (e:=e) (fun i g=>PgOk6 g∧g.length≤2 * i) (fun _ _=>[("_law_other",.ref σ.length),("_law_page",.ref k),("_law_cell",.int c)]) (fun _ g=>σ++[.dict (pgE g) none]) [] (Blt.enumerate_ bl) hA.handled (up_at hk) (fun ep=>?_) ⟨.nil,Nat.le_refl _⟩ rfl (by with_reducible (refine Sub.c ?_;refine Lh ?_;refine ⟨rfl,?_⟩;refine Sub.c ?_;refine Lt ?_;refine Lh ?_;refine ⟨rfl,?_⟩;refine Sub.c ?_;refine Lt ?_;refine Lt ?_;refine Lh ?_;refine ⟨rfl,?_⟩;exact Sub.nil)) (fun _ _ _=>up_at hk) ?_ ?_
 ·with_reducible (refine Ec ?_;refine E_nm ?_;refine Lt ?_;refine Lh ?_;refine En ?_;refine ⟨rfl,?_⟩)
  first | exact ⟨rfl,rfl⟩ | rfl
 ·rintro ep i g hi ⟨hok,hg⟩
  rw [pgE_length] at hi
  rw [keyAt_pg hi]
  have hr:=hpo.2 _ (List.getElem_mem hi)
  have hat:=at_pg_get hpo.1 hi
  generalize p[i]=r at *
  obtain ⟨x,v⟩:=r
  obtain ⟨hx,hv⟩:=hr
  have hxl:=isNameS_len hx
  dsimp only at *
  have hup:(pin (σ++[AObj.dict (pgE g) none]) k (pgE p) ep)[k]?=some (.dict (pgE p) (some ep)):=pin_at (up_at hk)
  with_reducible (refine X_let ?_;refine E_bin ?_;refine E_cf ‹_› (hA.le (by decide)) ?_;refine Ec ?_;refine E_nm ?_;refine Lt ?_;refine Lt ?_;refine Lt ?_;refine Lt ?_;refine Lh ?_;refine Ec ?_;refine E_nm ?_;refine Lt ?_;refine Lh ?_;refine En ?_;refine ⟨_,_,rfl,?_⟩;refine E_int ?_;refine O_mod ?_ (by exact qBJ);refine X_let ?_;refine E_sub ?_;refine E_nm ?_;refine Lt ?_;refine Lt ?_;refine Lt ?_;refine Lt ?_;refine Lh ?_;refine E_nm ?_;refine Lt ?_;refine Lh ?_)
  refine S_dict (key:=.s _) hup hat ?_
  generalize hm:mixed c (i:Int)=m
  have hm0:0≤m∧m < 2147483647:=by rw [← hm];unfold mixed;(exact qFL)
  refine X_ifj (ι:=Int×Int) (fun x=>0≤x.1∧0≤x.2∧0 < x.1+x.2∧x.1 < 10 ^ 60∧x.2 < 10 ^ 60) (fun s=>[("_law_share_here",shV s),("_law_kind_here",.int (m % 6)),("_law_name",.str x),("_law_k",.int (i:Int)),("_law_other",.ref σ.length),("_law_page",.ref k),("_law_cell",.int c)]) (fun _=>pin (σ++[AObj.dict (pgE g) none]) k (pgE p) ep) ?_ ?_
  ·with_reducible refine T_cmp1 (E_nm (Lt (Lh (E_int (O_eq (T_b ?_))))))
   refine iteD (fun h=>?_) (fun h=>?_)
   ·with_reducible refine X_let (E_tuple (Ec (E_bi bl.min_ (.builtin _) (Ec (E_bin (E_sub (E_nm (Lh (E_int (S_t0 (E_int (O_add (Ec (E_bin (E_bin (E_int (E_int (O_pow60 (E_int (O_sub (En (C_min hA.handled (Ec (E_sub (E_nm (Lh (E_int (S_t1 (En (An (X_nil ?_)))))))))))))))))))))))))))))))
    exact J_next (min (v.1+1) (10 ^ 60 - 1),v.2) (sh_a hv) rfl (by with_reducible (refine Sub.c (Lh ⟨rfl,(Sub.c (Lt (Lt (Lh ⟨rfl,(Sub.c (Lt (Lt (Lt (Lh ⟨rfl,(Sub.c (Lt (Lt (Lt (Lt (Lh ⟨rfl,(Sub.c (Lt (Lt (Lt (Lt (Lt (Lh ⟨rfl,(Sub.c (Lt (Lt (Lt (Lt (Lt (Lt (Lh ⟨rfl,(Sub.c (Lt (Lt (Lt (Lt (Lt (Lt (Lt (Lh ⟨rfl,?_⟩)))))))))⟩))))))))⟩)))))))⟩))))))⟩)))))⟩))))⟩);exact Sub.nil))
   ·with_reducible refine X_nil ?_
    exact J_next v hv rfl (by with_reducible (refine Sub.c (Lh ⟨rfl,(Sub.c (Lt (Lh ⟨rfl,(Sub.c (Lt (Lt (Lh ⟨rfl,(Sub.c (Lt (Lt (Lt (Lh ⟨rfl,(Sub.c (Lt (Lt (Lt (Lt (Lh ⟨rfl,(Sub.c (Lt (Lt (Lt (Lt (Lt (Lh ⟨rfl,(Sub.c (Lt (Lt (Lt (Lt (Lt (Lt (Lh ⟨rfl,?_⟩))))))))⟩)))))))⟩))))))⟩)))))⟩))))⟩)))⟩);exact Sub.nil))
  clear hv hat v
  rintro v hv
  try dsimp only
  refine X_ifj (ι:=Int×Int) (fun x=>0≤x.1∧0≤x.2∧0 < x.1+x.2∧x.1 < 10 ^ 60∧x.2 < 10 ^ 60) (fun s=>[("_law_share_here",shV s),("_law_kind_here",.int (m % 6)),("_law_name",.str x),("_law_k",.int (i:Int)),("_law_other",.ref σ.length),("_law_page",.ref k),("_law_cell",.int c)]) (fun _=>pin (σ++[AObj.dict (pgE g) none]) k (pgE p) ep) ?_ ?_
  ·with_reducible refine T_cmp1 (E_nm (Lt (Lh (E_int (O_eq (T_b ?_))))))
   refine iteD (fun h=>?_) (fun h=>?_)
   ·with_reducible refine X_let (E_tuple (Ec (E_sub (E_nm (Lh (E_int (S_t0 (Ec (E_bi bl.min_ (.builtin _) (Ec (E_bin (E_sub (E_nm (Lh (E_int (S_t1 (E_int (O_add (Ec (E_bin (E_bin (E_int (E_int (O_pow60 (E_int (O_sub (En (C_min hA.handled (En (An (X_nil ?_)))))))))))))))))))))))))))))))
    exact J_next (v.1,min (v.2+1) (10 ^ 60 - 1)) (sh_b hv (by decide)) rfl (by with_reducible (refine Sub.c (Lh ⟨rfl,(Sub.c (Lt (Lt (Lh ⟨rfl,(Sub.c (Lt (Lt (Lt (Lh ⟨rfl,(Sub.c (Lt (Lt (Lt (Lt (Lh ⟨rfl,(Sub.c (Lt (Lt (Lt (Lt (Lt (Lh ⟨rfl,(Sub.c (Lt (Lt (Lt (Lt (Lt (Lt (Lh ⟨rfl,(Sub.c (Lt (Lt (Lt (Lt (Lt (Lt (Lt (Lh ⟨rfl,?_⟩)))))))))⟩))))))))⟩)))))))⟩))))))⟩)))))⟩))))⟩);exact Sub.nil))
   ·with_reducible refine X_nil ?_
    exact J_next v hv rfl (by with_reducible (refine Sub.c (Lh ⟨rfl,(Sub.c (Lt (Lh ⟨rfl,(Sub.c (Lt (Lt (Lh ⟨rfl,(Sub.c (Lt (Lt (Lt (Lh ⟨rfl,(Sub.c (Lt (Lt (Lt (Lt (Lh ⟨rfl,(Sub.c (Lt (Lt (Lt (Lt (Lt (Lh ⟨rfl,(Sub.c (Lt (Lt (Lt (Lt (Lt (Lt (Lh ⟨rfl,?_⟩))))))))⟩)))))))⟩))))))⟩)))))⟩))))⟩)))⟩);exact Sub.nil))
  clear hv v
  rintro v hv
  try dsimp only
  refine X_ifj (ι:=Int×Int) (fun x=>0≤x.1∧0≤x.2∧0 < x.1+x.2∧x.1 < 10 ^ 60∧x.2 < 10 ^ 60) (fun s=>[("_law_share_here",shV s),("_law_kind_here",.int (m % 6)),("_law_name",.str x),("_law_k",.int (i:Int)),("_law_other",.ref σ.length),("_law_page",.ref k),("_law_cell",.int c)]) (fun _=>pin (σ++[AObj.dict (pgE g) none]) k (pgE p) ep) ?_ ?_
  ·with_reducible refine T_cmp1 (E_nm (Lt (Lh (E_int (O_eq (T_b ?_))))))
   refine iteD (fun h=>?_) (fun h=>?_)
   ·with_reducible refine X_let (E_tuple (Ec (E_bin (E_sub (E_nm (Lh (E_int (S_t0 (E_int (O_div (Ec (E_bi bl.min_ (.builtin _) (Ec (E_bin (E_sub (E_nm (Lh (E_int (S_t1 (E_int (O_add (Ec (E_bin (E_bin (E_int (E_int (O_pow60 (E_int (O_sub (En (C_min hA.handled (En (An (X_nil ?_)))))))))))))))))))))))) (by exact qAQ) (by decide +kernel)))))))))))
    exact J_next (v.1 / 2,min (v.2+5) (10 ^ 60 - 1)) (sh_c hv) rfl (by with_reducible (refine Sub.c (Lh ⟨rfl,(Sub.c (Lt (Lt (Lh ⟨rfl,(Sub.c (Lt (Lt (Lt (Lh ⟨rfl,(Sub.c (Lt (Lt (Lt (Lt (Lh ⟨rfl,(Sub.c (Lt (Lt (Lt (Lt (Lt (Lh ⟨rfl,(Sub.c (Lt (Lt (Lt (Lt (Lt (Lt (Lh ⟨rfl,(Sub.c (Lt (Lt (Lt (Lt (Lt (Lt (Lt (Lh ⟨rfl,?_⟩)))))))))⟩))))))))⟩)))))))⟩))))))⟩)))))⟩))))⟩);exact Sub.nil))
   ·with_reducible refine X_nil ?_
    exact J_next v hv rfl (by with_reducible (refine Sub.c (Lh ⟨rfl,(Sub.c (Lt (Lh ⟨rfl,(Sub.c (Lt (Lt (Lh ⟨rfl,(Sub.c (Lt (Lt (Lt (Lh ⟨rfl,(Sub.c (Lt (Lt (Lt (Lt (Lh ⟨rfl,(Sub.c (Lt (Lt (Lt (Lt (Lt (Lh ⟨rfl,(Sub.c (Lt (Lt (Lt (Lt (Lt (Lt (Lh ⟨rfl,?_⟩))))))))⟩)))))))⟩))))))⟩)))))⟩))))⟩)))⟩);exact Sub.nil))
  clear hv v
  rintro v hv
  try dsimp only
  refine X_ifj (ι:=Pg) (fun g'=>PgOk6 g'∧g'.length≤2 * i+1) (fun _=>[("_law_share_here",shV v),("_law_kind_here",.int (m % 6)),("_law_name",.str x),("_law_k",.int (i:Int)),("_law_other",.ref σ.length),("_law_page",.ref k),("_law_cell",.int c)]) (fun g'=>pin (σ++[AObj.dict (pgE g') none]) k (pgE p) ep) ?_ ?_
  ·with_reducible refine T_bool (Ts_and (T_cmp1 (E_nm (Lt (Lh (E_int (O_gt (T_b ?_))))))))
   refine iteD (fun h=>?_) (fun h=>?_)
   ·with_reducible refine Ts_and (T_cmp1 (E_nm (Lh (E_tuple (Ec (E_int (Ec (E_int (En (An ?_))))))))))
    refine O_ne_pair (by have:=hA.units;show _ < 9900;exact qAW this) ?_
    with_reducible refine T_b ?_
    refine iteDn (fun h2=>?_) (fun h2=>?_)
    ·with_reducible refine Ts_and_nil (iteT (X_set (E_nm (Lh (E_nm (Lt (Lt (Lt (Lt (Lh (E_nm (Lt (Lt (Lh ?_))))))))))))))
     refine P_dict (key:=.s x) (pin_end_at hkl) (small_size (by rw [pgE_length];exact qCR hpl hi hg)) ?_
     rw [pin_end_set hkl,put_pg]
     with_reducible refine X_nil ?_
     refine J_next (pput g x v) ⟨pput_ok6 hok ⟨hx,hv⟩,?_⟩ rfl (by with_reducible (refine Sub.c (Lh ⟨rfl,(Sub.c (Lt (Lh ⟨rfl,(Sub.c (Lt (Lt (Lh ⟨rfl,(Sub.c (Lt (Lt (Lt (Lh ⟨rfl,(Sub.c (Lt (Lt (Lt (Lt (Lh ⟨rfl,(Sub.c (Lt (Lt (Lt (Lt (Lt (Lh ⟨rfl,(Sub.c (Lt (Lt (Lt (Lt (Lt (Lt (Lh ⟨rfl,?_⟩))))))))⟩)))))))⟩))))))⟩)))))⟩))))⟩)))⟩);exact Sub.nil))
     have:=pput_len g x v
     (exact qCT hg this)
    ·with_reducible refine iteF (X_nil ?_)
     exact J_next g ⟨hok,by exact qBU hg⟩ rfl (by with_reducible (refine Sub.c (Lh ⟨rfl,(Sub.c (Lt (Lh ⟨rfl,(Sub.c (Lt (Lt (Lh ⟨rfl,(Sub.c (Lt (Lt (Lt (Lh ⟨rfl,(Sub.c (Lt (Lt (Lt (Lt (Lh ⟨rfl,(Sub.c (Lt (Lt (Lt (Lt (Lt (Lh ⟨rfl,(Sub.c (Lt (Lt (Lt (Lt (Lt (Lt (Lh ⟨rfl,?_⟩))))))))⟩)))))))⟩))))))⟩)))))⟩))))⟩)))⟩);exact Sub.nil))
   ·with_reducible refine iteF (X_nil ?_)
    exact J_next g ⟨hok,by exact qBU hg⟩ rfl (by with_reducible (refine Sub.c (Lh ⟨rfl,(Sub.c (Lt (Lh ⟨rfl,(Sub.c (Lt (Lt (Lh ⟨rfl,(Sub.c (Lt (Lt (Lt (Lh ⟨rfl,(Sub.c (Lt (Lt (Lt (Lt (Lh ⟨rfl,(Sub.c (Lt (Lt (Lt (Lt (Lt (Lh ⟨rfl,(Sub.c (Lt (Lt (Lt (Lt (Lt (Lt (Lh ⟨rfl,?_⟩))))))))⟩)))))))⟩))))))⟩)))))⟩))))⟩)))⟩);exact Sub.nil))
  clear hok hg hup g
  rintro g ⟨hok,hg⟩
  try dsimp only
  refine X_ifs ?_
  with_reducible (refine T_cmp1 ?_;refine E_nm ?_;refine Lt ?_;refine Lh ?_;refine E_int ?_;refine O_eq ?_;refine T_b ?_)
  refine iteD (fun h=>?_) (fun h=>?_)
  ·with_reducible (refine X_let ?_;refine E_bin ?_;refine E_bin ?_;refine E_cf ‹_› (hA.le (by decide)) ?_;refine Ec ?_;refine E_nm ?_;refine Lt ?_;refine Lt ?_;refine Lt ?_;refine Lt ?_;refine Lt ?_;refine Lt ?_;refine Lh ?_;refine Ec ?_;refine E_nm ?_;refine Lt ?_;refine Lt ?_;refine Lt ?_;refine Lh ?_;refine En ?_;refine ⟨_,_,rfl,?_⟩;refine E_int ?_;refine O_div ?_ (by exact qBJ) (by decide +kernel);refine E_bi bl.len_ (.builtin _) ?_;refine Ec ?_;refine E_nm ?_;refine Lt ?_;refine Lt ?_;refine Lh ?_;refine En ?_)
   rw [hm]
   refine C_len_str (by exact qB3 hxl) ?_
   have hlp:(0:Int) < (x.length:Int):=by exact qHH hxl
   refine O_mod ?_ hlp
   have a1:=Int.emod_lt_of_pos (m / 6) hlp
   have a0:=Int.emod_nonneg (m / 6) (Int.ne_of_gt hlp)
   generalize m / 6 % (x.length:Int)=at_ at a0 a1
   with_reducible (refine X_let ?_;refine E_bin ?_;refine E_bin ?_;refine E_slice_to ?_;refine E_nm ?_;refine Lt ?_;refine Lt ?_;refine Lt ?_;refine Lh ?_;refine ⟨_,rfl,?_⟩)
   refine ⟨small_size (by exact qBk hxl),?_⟩
   with_reducible (refine E_nm ?_;refine Lh ?_;refine ⟨_,rfl,?_⟩;refine E_sub ?_;refine E_str ?_;refine E_bin ?_;refine E_bin ?_;refine E_cf ‹_› (hA.le (by decide)) ?_;refine Ec ?_;refine E_nm ?_;refine Lt ?_;refine Lt ?_;refine Lt ?_;refine Lt ?_;refine Lt ?_;refine Lt ?_;refine Lt ?_;refine Lh ?_;refine Ec ?_;refine E_nm ?_;refine Lt ?_;refine Lt ?_;refine Lt ?_;refine Lt ?_;refine Lh ?_;refine En ?_;refine ⟨_,_,rfl,?_⟩;refine E_int ?_;refine O_div ?_ (by exact qEX) (by decide +kernel);refine E_int ?_;refine O_mod ?_ (by exact qAG))
   rw [hm]
   refine S_str (by exact qD9) (by rw [show (Str.ofString "abcdefghijklmnopqrstuvwxyz").cps.size=26 from letters_size];exact qEh) (by exact qDE) ?_
   rw [show signAt (Str.ofString "abcdefghijklmnopqrstuvwxyz") (m / 48 % 26).toNat=_ from letters_sign (by exact qAy),slice_to a0]
   have hcl:(m / 48 % 26).toNat < 26:=by exact qAy
   generalize (m / 48 % 26).toNat=cc at hcl
   have htw:=twin_len x at_.toNat cc
   refine O_adds ?_ (small_size (by show _+_≤100000;simp [Str.length,sg] at hxl ⊢;exact qEJ hxl))
   with_reducible refine E_slice_from (E_nm (Lt (Lt (Lt (Lh ⟨_,rfl,?_⟩)))))
   refine ⟨small_size (by exact qBk hxl),?_⟩
   with_reducible refine E_bin (E_nm (Lh (E_int (O_add ⟨_,rfl,?_⟩))))
   rw [slice_from (by exact qD5 a0) (by (assumption))]
   refine O_adds ?_ (small_size (by have:(⟨(x.cps.toList.drop (at_+1).toNat).toArray⟩:Str).length≤8:=(by simp [Str.length] at hxl ⊢;exact qEx hxl);exact qFf hxl htw this))
   have ea:(at_+1).toNat=at_.toNat+1:=by exact qCl a0
   rw [ea]
   have hnew:=twin_ok hx (a:=at_.toNat) (c:=cc) (by exact qEq hxl a1) hcl
   generalize (⟨(x.cps.toList.take at_.toNat).toArray⟩:Str)++sg (97+cc)++⟨(x.cps.toList.drop (at_.toNat+1)).toArray⟩=tw at hnew
   with_reducible refine X_set (E_tuple (Ec (E_sub (E_nm (Lt (Lt (Lh (E_int (S_t0 (Ec (E_int (En (An (E_nm (Lt (Lt (Lt (Lt (Lt (Lt (Lh (E_nm (Lh ?_)))))))))))))))))))))))
   refine P_dict (key:=.s tw) (pin_end_at hkl) (small_size (by rw [pgE_length];exact qEr hpl hi hg)) ?_
   rw [pin_end_set hkl,show V.tup [V.int v.1,V.int 3]=shV (v.1,3) from rfl,put_pg]
   with_reducible refine X_nil (sq_next (X_nil ?_))
   refine TD_next (pput g tw (v.1,3)) ⟨pput_ok6 hok ⟨hnew,by dsimp only;exact qCH hv⟩,?_⟩ rfl (by with_reducible (refine Sub.c (Lt (Lt (Lt (Lt (Lt (Lt (Lh ⟨rfl,(Sub.c (Lt (Lt (Lt (Lt (Lt (Lt (Lt (Lh ⟨rfl,(Sub.c (Lt (Lt (Lt (Lt (Lt (Lt (Lt (Lt (Lh ⟨rfl,?_⟩))))))))))⟩)))))))))⟩)))))));exact Sub.nil))
   have:=pput_len g tw (v.1,3)
   (exact qGP hg this)
  ·with_reducible refine X_nil (sq_next (X_nil ?_))
   exact TD_next g ⟨hok,by exact qCO hg⟩ rfl (by with_reducible (refine Sub.c (Lt (Lt (Lt (Lt (Lh ⟨rfl,(Sub.c (Lt (Lt (Lt (Lt (Lt (Lh ⟨rfl,(Sub.c (Lt (Lt (Lt (Lt (Lt (Lt (Lh ⟨rfl,?_⟩))))))))⟩)))))))⟩)))));exact Sub.nil))
 ·rintro g ⟨hok,hg⟩
  rw [pgE_length] at hg
  with_reducible refine X_ret (E_nm (Lh ?_))
  exact R_all (q g hok (by omega))
inductive P_same (xs:List V) (σ:List AObj) (Q:V→List AObj→Prop) (X:XT):Prop
 | mk:∀ j k F D e e',(σ[j]?=some (.dict (pgE F) e))→(σ[k]?=some (.dict (pgE D) e'))→((names F=srt (names D)∧(∀ r∈F,r∈D)∧D.length≤1000∧∀ r∈D,isNameS r.1=true))→(xs=[.ref j,.ref k])→(Q (.bool true) σ)→P_same xs σ Q X
theorem good_same:Good (dr pw_uf050040_08 36) ["_law_found","_law_due"] :=
 ⟨fun pm code doc vals h=>(by obtain ⟨a,b,rfl⟩:=len_2 h;rfl),by decide +kernel,by decide +kernel,by decide +kernel,rfl,rfl,rfl⟩
theorem cf_same (gl:Gl B mg mb) (bl:Blt B mg mb) (S:Scr B scr nums) (H:HasF B mg (dr pw_uf050040_08 36))
  (c_share:CF prog w B mg "_law_share" 2 P_share) :
  CF prog w B mg "_law_same" 3 P_same:=by
 refine CF_of gl H good_same ?_
 rintro A pm code doc L a₀ _ σ Q X hA ⟨j,k,F,D,e,e',hj,hk,⟨hns,hsub,hlen,hok⟩,rfl,q⟩
 refine ⟨rfl,?_⟩
 change WX _ _ _ _ _ (_ :: _) ((_,_) :: (_,_) :: []) _ _ _
 refine X_keys hk fun hnd=>?_
 replace hnd:=names_nodup hnd
 refine X_keys hj fun hnf=>?_
 replace hnf:=names_nodup hnf
 have hfl:F.length=D.length:=by
  have:=congrArg List.length hns
  rw [(srt_perm _).length_eq] at this
  simpa [names] using this
 refine X_ifs ?_
 with_reducible refine T_bool (Ts_or (T_not (T_value (E_bi bl.isinstance_ (.builtin _) (Ec (E_nm (Lh (Ec (E_nm (Lt (Lt (LQ_nil (N_bi bl.dict_ (En ?_))))))))))))))
 refine isi_dict hj isi_dict_dict ?_
 with_reducible refine T_b (iN (Ts_or (T_cmp1 (E_bi bl.list_ (.type _) (Ec (E_nm (Lh (En ?_))))))))
 refine C_list_dict hA.handled hj (small_size (by rw [pgE_length];exact qFj hlen hfl)) ?_
 with_reducible refine E_bi bl.sorted_ (.builtin _) (Ec (E_nm (Lt (Lh (En ?_)))))
 refine C_sorted_dict hA.handled (up_at hk) (fun q hq=>?_) (small_sort (by rw [pgE_length];exact qAI hlen)) ?_
 ·obtain ⟨x,_,rfl⟩:=List.mem_map.mp hq
  exact ⟨x.1,rfl⟩
 have ek:(pgE D).map (fun p=>keyS p.1)=names D:=by simp [pgE,toRow,keyS,names]
 have ef:(pgE F).map (fun p=>p.1.v)=(srt (names D)).map V.str:=by rw [← hns];simp [pgE,toRow,names,Key.v]
 rw [ek,ef]
 refine O_ne_strs at_prev at_end' (fun x hx=>?_) (small_size (by rw [(srt_perm _).length_eq];simp [names];exact qAI hlen)) (by have:=hA.units;show _ < 9900;exact qAW this) ?_
 ·obtain ⟨r,hr,rfl⟩:=List.mem_map.mp (srt_mem.mp hx)
  exact isNameS_cps (hok r hr)
 with_reducible refine T_b (iteF (Ts_or_nil (iteF (X_nil (sq_next ?_)))))
 generalize ht1:AObj.list ((srt (names D)).map V.str)=o1
 refine X_ford (ι:=Unit) (fun i _=>True) (fun _ _=>[("_law_found",.ref j),("_law_due",.ref k)]) (fun _ _=>σ++[o1]++[o1]) () hA.handled (up_at (up_at hj)) (fun ep=>?_) trivial rfl (by with_reducible (refine Sub.c ?_;refine Lh ?_;refine ⟨rfl,?_⟩;refine Sub.c ?_;refine Lt ?_;refine Lh ?_;refine ⟨rfl,?_⟩;exact Sub.nil)) (fun _ _ _=>up_at (up_at hj)) ?_ ?_
 ·with_reducible refine E_nm (Lh ⟨rfl,?_⟩)
  first | exact ⟨rfl,rfl⟩ | rfl
 ·rintro ep i ⟨⟩ hi -
  rw [pgE_length] at hi
  rw [keyAt_pg hi]
  have hat:=at_pg_get hnf hi
  have hin:=hsub _ (List.getElem_mem hi)
  generalize F[i]=x at *
  obtain ⟨n,v⟩:=x
  dsimp only at *
  have hat2:at? (pgE D) (.s n)=some (shV v):=by rw [at_pg,look?_get hnd hin];rfl
  obtain ⟨e₁,hk'⟩:=pin_get (ep:=ep) (up_at (more:=[o1]) (up_at (more:=[o1]) hk)) (up_at (up_at hj))
  have hup:(pin (σ++[o1]++[o1]) j (pgE F) ep)[j]?=some (.dict (pgE F) (some ep)):=pin_at (up_at (up_at hj))
  refine X_ifs ?_
  with_reducible refine T_bool (Ts_or (T_not (T_value (E_bi bl.isinstance_ (.builtin _) (Ec (E_nm (Lh (Ec (E_nm (Lt (Lt (Lt (LQ_nil (N_bi bl.str_ (En (isi_str (isi_str_str) (T_b (iN (Ts_or (T_not (T_value (E_cf ‹_› (hA.le (by decide)) (Ec (E_sub (E_nm (Lt (Lh (E_nm (Lh ?_)))))))))))))))))))))))))))))
  refine S_dict (key:=.s _) hup hat ?_
  with_reducible refine Ec (E_sub (E_nm (Lt (Lt (Lh (E_nm (Lh ?_)))))))
  refine S_dict (key:=.s _) hk' hat2 ?_
  with_reducible refine En ⟨_,_,_,_,rfl,(T_b ?_)⟩
  refine iteDn (fun h=>absurd ⟨rfl,rfl⟩ h) (fun h=>?_)
  with_reducible refine Ts_or_nil (iteF (X_nil (sq_next (X_nil ?_))))
  exact TD_next () trivial rfl (by with_reducible (refine Sub.c (Lt (Lh ⟨rfl,(Sub.c (Lt (Lt (Lh ⟨rfl,?_⟩))))⟩));exact Sub.nil))
 ·rintro ⟨⟩ -
  with_reducible refine X_ret (E_bool ?_)
  rw [List.append_assoc]
  exact R_none trivial q
inductive P_l_joined (xs:List V) (σ:List AObj) (Q:V→List AObj→Prop) (X:XT):Prop
 | mk:∀ j k p r e e',(σ[j]?=some (.dict (pgE p) e))→(σ[k]?=some (.dict (pgE r) e'))→(p.length+r.length≤1000)→(xs=[.ref j,.ref k])→(Q (.ref σ.length) (σ++[.dict (pgE (dueJ p r)) none]))→P_l_joined xs σ Q X
theorem good_l_joined:Good (dr pw_uf050040_08 37) ["_law_one","_law_other"] :=
 ⟨fun pm code doc vals h=>(by obtain ⟨a,b,rfl⟩:=len_2 h;rfl),by decide +kernel,by decide +kernel,by decide +kernel,rfl,rfl,rfl⟩
theorem cf_l_joined (gl:Gl B mg mb) (bl:Blt B mg mb) (S:Scr B scr nums) (H:HasF B mg (dr pw_uf050040_08 37)) :
  CF prog w B mg "_law_joined" 1 P_l_joined:=by
 refine CF_of gl H good_l_joined ?_
 rintro A pm code doc L a₀ _ σ Q X hA ⟨j,k,p,r,e,e',hj,hk,hlen,rfl,q⟩
 refine ⟨rfl,?_⟩
 change WX _ _ _ _ _ (_ :: _) ((_,_) :: (_,_) :: []) _ _ _
 have hkl:=at_len hk
 refine X_keys hk fun hnd=>?_
 replace hnd:=names_nodup hnd
 with_reducible refine X_let (E_bi bl.dict_ (.type _) (Ec (E_nm (Lh (En ?_)))))
 refine C_dict_copy hj (small_size (by rw [pgE_length];exact qBw hlen)) ?_
 refine X_ford (ι:=Pg) (fun i g=>g=dueJ p (r.take i)) (fun _ _=>[("_law_page",.ref σ.length),("_law_one",.ref j),("_law_other",.ref k)]) (fun _ g=>σ++[.dict (pgE g) none]) p hA.handled (up_at hk) (fun ep=>?_) rfl rfl (by with_reducible (refine Sub.c ?_;refine Lh ?_;refine ⟨rfl,?_⟩;refine Sub.c ?_;refine Lt ?_;refine Lh ?_;refine ⟨rfl,?_⟩;refine Sub.c ?_;refine Lt ?_;refine Lt ?_;refine Lh ?_;refine ⟨rfl,?_⟩;exact Sub.nil)) (fun _ _ _=>up_at hk) ?_ ?_
 ·with_reducible refine E_nm (Lt (Lt (Lh ⟨rfl,?_⟩)))
  first | exact ⟨rfl,rfl⟩ | rfl
 ·rintro ep i g hi hD
  rw [pgE_length] at hi
  rw [keyAt_pg hi]
  have hat:=at_pg_get hnd hi
  have hgl:g.length≤p.length+i:=by
   rw [hD]
   have:=dueJ_len (r.take i) p
   rw [List.length_take] at this
   (exact qC8 this)
  have hstep:dueJ p (r.take (i+1))=pput g r[i].1 (maxS (look g r[i].1) r[i].2):=by
   rw [List.take_add_one,List.getElem?_eq_getElem hi,hD]
   unfold dueJ
   rw [List.foldl_append]
   rfl
  generalize r[i]=x at *
  obtain ⟨n,v⟩:=x
  dsimp only at *
  have hup:(pin (σ++[AObj.dict (pgE g) none]) k (pgE r) ep)[k]?=some (.dict (pgE r) (some ep)):=pin_at (up_at hk)
  with_reducible refine X_let (E_mcall (name:=Str.ofString "get") (id:="dict.get") (E_nm (Lt (Lh ?_))))
  refine ⟨GM_dict (pin_end_at hkl) F.slot_dict_get F.type_dict_get,?_⟩
  with_reducible refine Ec (E_nm (Lh (Ec (E_tuple (Ec (E_int (Ec (E_int (En (An (En ?_)))))))))))
  refine C_get_s (pin_end_at hkl) ?_
  rw [at_pgD]
  with_reducible refine X_let (E_sub (E_nm (Lt (Lt (Lt (Lt (Lh (E_nm (Lt (Lh ?_))))))))))
  refine S_dict (key:=.s _) hup hat ?_
  refine X_let ?_
  refine E_as (.int (max (look g n).1 v.1)) ?_ ?_
  ·refine E_ifexp ?_
   with_reducible refine T_cmp1 (E_sub (E_nm (Lh (E_int (S_t0 (E_sub (E_nm (Lt (Lh (E_int (S_t0 (O_gt (T_b ?_)))))))))))))
   refine iteD (fun h=>?_) (fun h=>?_)
   ·with_reducible refine E_sub (E_nm (Lh (E_int (S_t0 ?_))))
    exact ⟨by congr 1;exact qBq h,rfl⟩
   ·with_reducible refine E_sub (E_nm (Lt (Lh (E_int (S_t0 ?_)))))
    exact ⟨by congr 1;exact qBi h,rfl⟩
  refine X_let ?_
  refine E_as (.int (max (look g n).2 v.2)) ?_ ?_
  ·refine E_ifexp ?_
   with_reducible refine T_cmp1 (E_sub (E_nm (Lt (Lh (E_int (S_t1 (E_sub (E_nm (Lt (Lt (Lh (E_int (S_t1 (O_gt (T_b ?_)))))))))))))))
   refine iteD (fun h=>?_) (fun h=>?_)
   ·with_reducible refine E_sub (E_nm (Lt (Lh (E_int (S_t1 ?_)))))
    exact ⟨by congr 1;exact qBq h,rfl⟩
   ·with_reducible refine E_sub (E_nm (Lt (Lt (Lh (E_int (S_t1 ?_))))))
    exact ⟨by congr 1;exact qBi h,rfl⟩
  with_reducible refine X_set (E_tuple (Ec (E_nm (Lt (Lh (Ec (E_nm (Lh (En (An (E_nm (Lt (Lt (Lt (Lt (Lt (Lh (E_nm (Lt (Lt (Lt (Lt (Lh ?_)))))))))))))))))))))))
  refine P_dict (key:=.s n) (pin_end_at hkl) (small_size (by rw [pgE_length];exact qFi hlen hi hgl)) ?_
  rw [show V.tup [.int (max (look g n).1 v.1),.int (max (look g n).2 v.2)]=shV (maxS (look g n) v) from rfl,pin_end_set hkl,put_pg]
  with_reducible refine X_nil ?_
  exact TD_next (pput g n (maxS (look g n) v)) hstep.symm rfl (by with_reducible (refine Sub.c (Lt (Lt (Lt (Lt (Lt (Lh ⟨rfl,(Sub.c (Lt (Lt (Lt (Lt (Lt (Lt (Lh ⟨rfl,(Sub.c (Lt (Lt (Lt (Lt (Lt (Lt (Lt (Lh ⟨rfl,?_⟩)))))))))⟩))))))))⟩))))));exact Sub.nil))
 ·rintro g hD
  rw [pgE_length,List.take_length] at hD
  subst hD
  with_reducible refine X_ret (E_nm (Lh ?_))
  exact R_all q
inductive P_l_total (xs:List V) (σ:List AObj) (Q:V→List AObj→Prop) (X:XT):Prop
 | mk:∀ k p e,(σ[k]?=some (.dict (pgE p) e))→(p.length≤1000)→(xs=[.ref k])→(Q (.int (nets p).sum) σ)→P_l_total xs σ Q X
theorem good_l_total:Good (dr pw_uf050040_08 38) ["_law_page"] :=
 ⟨fun pm code doc vals h=>(by obtain ⟨a,rfl⟩:=len_1 h;rfl),by decide +kernel,by decide +kernel,by decide +kernel,rfl,rfl,rfl⟩
theorem cf_l_total (gl:Gl B mg mb) (bl:Blt B mg mb) (S:Scr B scr nums) (H:HasF B mg (dr pw_uf050040_08 38)) :
  CF prog w B mg "_law_total" 1 P_l_total:=by
 refine CF_of gl H good_l_total ?_
 rintro A pm code doc L a₀ _ σ Q X hA ⟨k,p,e,hk,hlen,rfl,q⟩
 refine ⟨rfl,?_⟩
 change WX _ _ _ _ _ (_ :: _) ((_,_) :: []) _ _ _
 refine X_keys hk fun hnd=>?_
 replace hnd:=names_nodup hnd
 with_reducible refine X_let (E_int ?_)
 refine X_ford (ι:=Int) (fun i t=>t=(nets (p.take i)).sum) (fun _ t=>[("_law_found",.int t),("_law_page",.ref k)]) (fun _ _=>σ) 0 hA.handled hk (fun ep=>?_) rfl rfl (by with_reducible (refine Sub.c ?_;refine Lh ?_;refine ⟨rfl,?_⟩;refine Sub.c ?_;refine Lt ?_;refine Lh ?_;refine ⟨rfl,?_⟩;exact Sub.nil)) (fun _ _ _=>hk) ?_ ?_
 ·with_reducible refine E_nm (Lt (Lh ⟨rfl,?_⟩))
  first | exact ⟨rfl,rfl⟩ | rfl
 ·rintro ep i t hi hD
  rw [pgE_length] at hi
  rw [keyAt_pg hi]
  have hat:=at_pg_get hnd hi
  with_reducible refine X_let (E_bin (E_bin (E_nm (Lt (Lh (E_sub (E_sub (E_nm (Lt (Lt (Lh (E_nm (Lh ?_)))))))))))))
  refine S_dict (key:=.s _) (pin_at hk) hat ?_
  with_reducible refine E_int (S_t0 (O_add (E_sub (E_sub (E_nm (Lt (Lt (Lh (E_nm (Lh ?_))))))))))
  refine S_dict (key:=.s _) (pin_at hk) hat ?_
  with_reducible refine E_int (S_t1 (O_sub (X_nil ?_)))
  refine TD_next (t+(p[i]).2.1 - (p[i]).2.2) ?_ rfl (by with_reducible (refine Sub.c (Lh ⟨rfl,(Sub.c (Lt (Lt (Lt (Lh ⟨rfl,?_⟩)))))⟩);exact Sub.nil))
  rw [List.take_add_one,List.getElem?_eq_getElem hi]
  unfold nets at hD ⊢
  rw [List.map_append,List.sum_append,← hD]
  simp only [Option.toList_some,List.map_cons,List.map_nil,List.sum_cons,List.sum_nil]
  omega
 ·rintro t hD
  rw [pgE_length,List.take_length] at hD
  subst hD
  with_reducible refine X_ret (E_nm (Lh ?_))
  exact R_all q
noncomputable abbrev P_truth:List V→List AObj→(V→List AObj→Prop)→XT→Prop:=(fun xs σ Q X=>∃ a b,xs=[.bool a,.bool b]∧Q (.bool (a == b)) σ)
theorem good_truth:Good (dr pw_uf050040_08 39) ["_law_found","_law_due"] :=
 ⟨fun pm code doc vals h=>(by obtain ⟨a,b,rfl⟩:=len_2 h;rfl),by decide +kernel,by decide +kernel,by decide +kernel,rfl,rfl,rfl⟩
theorem cf_truth (gl:Gl B mg mb) (bl:Blt B mg mb) (S:Scr B scr nums) (H:HasF B mg (dr pw_uf050040_08 39)) :
  CF prog w B mg "_law_truth" 1 P_truth:=by
 refine CF_of gl H good_truth ?_
 rintro A pm code doc L a₀ _ σ Q X hA ⟨c,d,rfl,q⟩
 refine ⟨rfl,?_⟩
 change WX _ _ _ _ _ (_ :: _) ((_,_) :: (_,_) :: []) _ _ _
 with_reducible refine X_ret ?_
 refine E_boolop ?_
 with_reducible refine Bo_and (E_bi bl.isinstance_ (.builtin _) (Ec (E_nm (Lh (Ec (E_nm (Lt (Lt (LQ_nil (N_bi bl.bool_ (En (isi_bool (isi_bool_bool) (T_b (iteT (Bo_one (E_cmp1 (E_nm (Lh (E_nm (Lt (Lh (O_eqb ?_))))))))))))))))))))))
 exact R_all q
inductive KindOf:Addr→Str→Prop
 | page:KindOf 61 "page"
 | forged:KindOf 73 "forged"
inductive P_kind (xs:List V) (σ:List AObj) (Q:V→List AObj→Prop) (X:XT):Prop
 | mk:∀ k C t w,(xs=[.ref k])→(σ[k]?=some (.exc C t))→(KindOf C w)→(Q (.str w) σ)→P_kind xs σ Q X
theorem good_kind:Good (dr pw_uf050040_08 40) ["_law_error"] :=
 ⟨fun pm code doc vals h=>(by obtain ⟨a,rfl⟩:=len_1 h;rfl),by decide +kernel,by decide +kernel,by decide +kernel,rfl,rfl,rfl⟩
theorem cf_kind (gl:Gl B mg mb) (bl:Blt B mg mb) (S:Scr B scr nums) (H:HasF B mg (dr pw_uf050040_08 40)) (e_GossipError:Err B K 24 vErr) (g_GossipError:GC B mg "GossipError" (.raw (.ref 24))) (e_NoName:Err B K 37 (.ref 24 :: vErr)) (g_NoName:GC B mg "NoName" (.raw (.ref 37))) (e_NoAmount:Err B K 49 (.ref 24 :: vErr)) (g_NoAmount:GC B mg "NoAmount" (.raw (.ref 49))) (e_NoPage:Err B K 61 (.ref 24 :: vErr)) (g_NoPage:GC B mg "NoPage" (.raw (.ref 61))) (e_Forged:Err B K 73 (.ref 24 :: vErr)) (g_Forged:GC B mg "Forged" (.raw (.ref 73))) (e_NoNote:Err B K 85 (.ref 24 :: vErr)) (g_NoNote:GC B mg "NoNote" (.raw (.ref 85))) (v_bi:Bi B mg mb "ValueError" (.type "ValueError")) :
  CF0 prog w B mg "_law_kind" 1 P_kind:=by
 refine CF0_of gl H good_kind ?_
 rintro A pm code doc L a₀ _ σ Q X hA ⟨k,C,t,w₀,rfl,hk,hw,q⟩
 refine ⟨rfl,?_⟩
 change WX _ _ _ _ _ (_ :: _) ((_,_) :: []) _ _ _
 with_reducible refine X_let (E_list (En (An ?_)))
 cases hw with
 | page =>
  refine X_ifs ?_
  with_reducible refine T_value (E_bi bl.isinstance_ (.builtin _) (Ec (E_nm (Lt (Lh (Ec (E_nm (Lt (Lt (LQ_nil (N_gc ‹_› (En ?_))))))))))))
  refine isi_exc (b:=false) e_NoPage e_NoName (up_at hk) (by decide) ?_
  with_reducible refine T_b (iteF (X_nil (sq_next ?_)))
  refine X_ifs ?_
  with_reducible refine T_value (E_bi bl.isinstance_ (.builtin _) (Ec (E_nm (Lt (Lh (Ec (E_nm (Lt (Lt (LQ_nil (N_gc ‹_› (En ?_))))))))))))
  refine isi_exc (b:=false) e_NoPage e_NoAmount (up_at hk) (by decide) ?_
  with_reducible refine T_b (iteF (X_nil (sq_next ?_)))
  refine X_ifs ?_
  with_reducible refine T_value (E_bi bl.isinstance_ (.builtin _) (Ec (E_nm (Lt (Lh (Ec (E_nm (Lt (Lt (LQ_nil (N_gc ‹_› (En ?_))))))))))))
  refine isi_exc (b:=true) e_NoPage e_NoPage (up_at hk) (by decide) ?_
  with_reducible refine T_b (iteT (X_do (E_mcall (name:=Str.ofString "append") (id:="list.append") (E_nm (Lh ?_)))))
  refine ⟨GM_list at_end F.slot_list_append F.type_list_append,?_⟩
  with_reducible refine Ec (E_str (En ?_))
  refine C_append at_end (by decide) ?_
  rw [set_end]
  with_reducible refine X_nil (sq_next ?_)
  refine X_ifs ?_
  with_reducible refine T_value (E_bi bl.isinstance_ (.builtin _) (Ec (E_nm (Lt (Lh (Ec (E_nm (Lt (Lt (LQ_nil (N_gc ‹_› (En ?_))))))))))))
  refine isi_exc (b:=false) e_NoPage e_Forged (up_at hk) (by decide) ?_
  with_reducible refine T_b (iteF (X_nil (sq_next ?_)))
  refine X_ifs ?_
  with_reducible refine T_value (E_bi bl.isinstance_ (.builtin _) (Ec (E_nm (Lt (Lh (Ec (E_nm (Lt (Lt (LQ_nil (N_gc ‹_› (En ?_))))))))))))
  refine isi_exc (b:=false) e_NoPage e_NoNote (up_at hk) (by decide) ?_
  with_reducible refine T_b (iteF (X_nil (sq_next ?_)))
  refine X_ifs ?_
  with_reducible refine T_bool (Ts_or (T_cmp1 (E_bi bl.len_ (.builtin _) (Ec (E_nm (Lh (En ?_)))))))
  refine C_len_list at_end (by decide) ?_
  with_reducible refine E_int (O_ne (T_b (iN (Ts_or (T_not (T_value (E_bi bl.isinstance_ (.builtin _) (Ec (E_nm (Lt (Lh (Ec (E_nm (Lt (Lt (LQ_nil ?_))))))))))))))))
  refine N_bi v_bi ?_
  with_reducible refine En ?_
  refine isi_excV e_NoPage (up_at hk) (by decide) ?_
  with_reducible refine T_b (iN (Ts_or_nil (iteF (X_nil (sq_next (X_ret (E_sub (E_nm (Lh (E_int ?_))))))))))
  refine S_l0 at_end ?_
  exact R_none (by simp [V.lt]) q
 | forged =>
  refine X_ifs ?_
  with_reducible refine T_value (E_bi bl.isinstance_ (.builtin _) (Ec (E_nm (Lt (Lh (Ec (E_nm (Lt (Lt (LQ_nil (N_gc ‹_› (En ?_))))))))))))
  refine isi_exc (b:=false) e_Forged e_NoName (up_at hk) (by decide) ?_
  with_reducible refine T_b (iteF (X_nil (sq_next ?_)))
  refine X_ifs ?_
  with_reducible refine T_value (E_bi bl.isinstance_ (.builtin _) (Ec (E_nm (Lt (Lh (Ec (E_nm (Lt (Lt (LQ_nil (N_gc ‹_› (En ?_))))))))))))
  refine isi_exc (b:=false) e_Forged e_NoAmount (up_at hk) (by decide) ?_
  with_reducible refine T_b (iteF (X_nil (sq_next ?_)))
  refine X_ifs ?_
  with_reducible refine T_value (E_bi bl.isinstance_ (.builtin _) (Ec (E_nm (Lt (Lh (Ec (E_nm (Lt (Lt (LQ_nil (N_gc ‹_› (En ?_))))))))))))
  refine isi_exc (b:=false) e_Forged e_NoPage (up_at hk) (by decide) ?_
  with_reducible refine T_b (iteF (X_nil (sq_next ?_)))
  refine X_ifs ?_
  with_reducible refine T_value (E_bi bl.isinstance_ (.builtin _) (Ec (E_nm (Lt (Lh (Ec (E_nm (Lt (Lt (LQ_nil (N_gc ‹_› (En ?_))))))))))))
  refine isi_exc (b:=true) e_Forged e_Forged (up_at hk) (by decide) ?_
  with_reducible refine T_b (iteT (X_do (E_mcall (name:=Str.ofString "append") (id:="list.append") (E_nm (Lh ?_)))))
  refine ⟨GM_list at_end F.slot_list_append F.type_list_append,?_⟩
  with_reducible refine Ec (E_str (En ?_))
  refine C_append at_end (by decide) ?_
  rw [set_end]
  with_reducible refine X_nil (sq_next ?_)
  refine X_ifs ?_
  with_reducible refine T_value (E_bi bl.isinstance_ (.builtin _) (Ec (E_nm (Lt (Lh (Ec (E_nm (Lt (Lt (LQ_nil (N_gc ‹_› (En ?_))))))))))))
  refine isi_exc (b:=false) e_Forged e_NoNote (up_at hk) (by decide) ?_
  with_reducible refine T_b (iteF (X_nil (sq_next ?_)))
  refine X_ifs ?_
  with_reducible refine T_bool (Ts_or (T_cmp1 (E_bi bl.len_ (.builtin _) (Ec (E_nm (Lh (En ?_)))))))
  refine C_len_list at_end (by decide) ?_
  with_reducible refine E_int (O_ne (T_b (iN (Ts_or (T_not (T_value (E_bi bl.isinstance_ (.builtin _) (Ec (E_nm (Lt (Lh (Ec (E_nm (Lt (Lt (LQ_nil ?_))))))))))))))))
  refine N_bi v_bi ?_
  with_reducible refine En ?_
  refine isi_excV e_Forged (up_at hk) (by decide) ?_
  with_reducible refine T_b (iN (Ts_or_nil (iteF (X_nil (sq_next (X_ret (E_sub (E_nm (Lh (E_int ?_))))))))))
  refine S_l0 at_end ?_
  exact R_none (by simp [V.lt]) q
inductive P_l_lacking (xs:List V) (σ:List AObj) (Q:V→List AObj→Prop) (X:XT):Prop
 | mk:∀ j k p r e e',(σ[j]?=some (.dict (pgE p) e))→(σ[k]?=some (.dict (pgE r) e'))→(r.length≤1000)→(xs=[.ref j,.ref k])→(Q (.ref σ.length) (σ++[.dict (pgE (r.filter (lackB p))) none]))→P_l_lacking xs σ Q X
theorem good_l_lacking:Good (dr pw_uf050040_08 41) ["_law_one","_law_other"] :=
 ⟨fun pm code doc vals h=>(by obtain ⟨a,b,rfl⟩:=len_2 h;rfl),by decide +kernel,by decide +kernel,by decide +kernel,rfl,rfl,rfl⟩
theorem cf_l_lacking (gl:Gl B mg mb) (bl:Blt B mg mb) (S:Scr B scr nums) (H:HasF B mg (dr pw_uf050040_08 41)) :
  CF prog w B mg "_law_lacking" 1 P_l_lacking:=by
 refine CF_of gl H good_l_lacking ?_
 rintro A pm code doc L a₀ _ σ Q X hA ⟨j,k,p,r,e,e',hj,hk,hlen,rfl,q⟩
 refine ⟨rfl,?_⟩
 change WX _ _ _ _ _ (_ :: _) ((_,_) :: (_,_) :: []) _ _ _
 have hkl:=at_len hk
 refine X_keys hk fun hnd=>?_
 replace hnd:=names_nodup hnd
 with_reducible refine X_let (E_dict0 ?_)
 refine X_ford (ι:=Pg) (fun i g=>g=(r.take i).filter (lackB p)) (fun _ _=>[("_law_page",.ref σ.length),("_law_one",.ref j),("_law_other",.ref k)]) (fun _ g=>σ++[.dict (pgE g) none]) [] hA.handled (up_at hk) (fun ep=>?_) rfl rfl (by with_reducible (refine Sub.c ?_;refine Lh ?_;refine ⟨rfl,?_⟩;refine Sub.c ?_;refine Lt ?_;refine Lh ?_;refine ⟨rfl,?_⟩;refine Sub.c ?_;refine Lt ?_;refine Lt ?_;refine Lh ?_;refine ⟨rfl,?_⟩;exact Sub.nil)) (fun _ _ _=>up_at hk) ?_ ?_
 ·with_reducible refine E_nm (Lt (Lt (Lh ⟨rfl,?_⟩)))
  first | exact ⟨rfl,rfl⟩ | rfl
 ·rintro ep i g hi hD
  rw [pgE_length] at hi
  rw [keyAt_pg hi]
  have hat:=at_pg_get hnd hi
  have hgl:g.length≤i:=by
   rw [hD]
   refine Nat.le_trans (List.length_filter_le _ _) ?_
   rw [List.length_take];(exact qAY)
  have hstep:(r.take (i+1)).filter (lackB p)=g++if lackB p r[i] then [r[i]] else []:=by
   rw [List.take_add_one,List.getElem?_eq_getElem hi,List.filter_append,← hD]
   simp only [Option.toList_some,List.filter_cons,List.filter_nil]
  have hfresh:r[i].1∉names g:=fun hm=>by
   obtain ⟨x,hx,hxe⟩:=List.mem_map.mp hm
   rw [hD] at hx
   obtain ⟨m,hm',em⟩:=List.mem_iff_getElem.mp (List.mem_filter.mp hx).1
   rw [List.getElem_take] at em
   rw [List.length_take] at hm'
   have h1:=List.pairwise_iff_getElem.mp hnd m i (by simp [names];exact qAo hm') (by simpa [names] using hi) (by exact qAd hm')
   simp only [names,List.getElem_map] at h1
   exact h1 (by rw [em];exact hxe)
  generalize hri:r[i]=x at *
  obtain ⟨n,v⟩:=x
  dsimp only at *
  have hup:(pin (σ++[AObj.dict (pgE g) none]) k (pgE r) ep)[k]?=some (.dict (pgE r) (some ep)):=pin_at (up_at hk)
  obtain ⟨e₁,hj'⟩:=pin_get (ep:=ep) (up_at (more:=[AObj.dict (pgE g) none]) hj) (up_at hk)
  with_reducible refine X_let (E_mcall (name:=Str.ofString "get") (id:="dict.get") (E_nm (Lt (Lt (Lh ?_)))))
  refine ⟨GM_dict hj' F.slot_dict_get F.type_dict_get,?_⟩
  with_reducible refine Ec (E_nm (Lh (Ec (E_tuple (Ec (E_int (Ec (E_int (En (An (En ?_)))))))))))
  refine C_get_s hj' ?_
  rw [at_pgD]
  refine X_ifs ?_
  refine T_as (lackB p (n,v)) ?_ ?_
  ·with_reducible refine T_bool (Ts_or (T_cmp1 (E_sub (E_sub (E_nm (Lt (Lt (Lt (Lt (Lh (E_nm (Lt (Lh ?_)))))))))))))
   refine S_dict (key:=.s _) hup hat ?_
   with_reducible refine E_int (S_t0 (E_sub (E_nm (Lh (E_int (S_t0 (O_gt (T_b ?_))))))))
   refine iteD (fun h=>?_) (fun h=>?_)
   ·skip
    exact ⟨by unfold lackB reach;dsimp only;rw [decide_eq_false (by exact qFr h)];rfl,rfl⟩
   ·with_reducible refine Ts_or (T_cmp1 (E_sub (E_sub (E_nm (Lt (Lt (Lt (Lt (Lh (E_nm (Lt (Lh ?_))))))))))))
    refine S_dict (key:=.s _) hup hat ?_
    with_reducible refine E_int (S_t1 (E_sub (E_nm (Lh (E_int (S_t1 (O_gt (T_b ?_))))))))
    refine iteD (fun h2=>?_) (fun h2=>?_)
    ·skip
     exact ⟨by unfold lackB reach;dsimp only;rw [decide_eq_false (by exact qEO h2)];rfl,rfl⟩
    ·with_reducible refine Ts_or_nil ?_
     exact ⟨by unfold lackB reach;dsimp only;rw [decide_eq_true (by exact qDG h h2)];rfl,rfl⟩
  refine iteB (fun hb=>?_) (fun hb=>?_)
  ·with_reducible refine X_set (E_sub (E_nm (Lt (Lt (Lt (Lt (Lh (E_nm (Lt (Lh ?_))))))))))
   refine S_dict (key:=.s _) hup hat ?_
   with_reducible refine E_nm (Lt (Lt (Lh (E_nm (Lt (Lh ?_))))))
   refine P_dict (key:=.s n) (pin_end_at hkl) (small_size (by rw [pgE_length];exact qAq hlen hi hgl)) ?_
   rw [pin_end_set hkl,put_pg]
   with_reducible refine X_nil (sq_next (X_nil ?_))
   refine TD_next (pput g n v) ?_ rfl (by with_reducible (refine Sub.c (Lt (Lt (Lh ⟨rfl,(Sub.c (Lt (Lt (Lt (Lh ⟨rfl,(Sub.c (Lt (Lt (Lt (Lt (Lh ⟨rfl,?_⟩))))))⟩)))))⟩)));exact Sub.nil))
   rw [hstep,hb]
   unfold pput
   rw [if_neg ?_]
   ·rfl
   ·intro ha
    obtain ⟨x,hx,hxe⟩:=List.any_eq_true.mp ha
    exact hfresh (List.mem_map.mpr ⟨x,hx,by simpa using hxe⟩)
  ·with_reducible refine X_nil (sq_next (X_nil ?_))
   exact TD_next g (by rw [hstep,hb];simp) rfl (by with_reducible (refine Sub.c (Lt (Lt (Lh ⟨rfl,(Sub.c (Lt (Lt (Lt (Lh ⟨rfl,(Sub.c (Lt (Lt (Lt (Lt (Lh ⟨rfl,?_⟩))))))⟩)))))⟩)));exact Sub.nil))
 ·rintro g hD
  rw [pgE_length,List.take_length] at hD
  subst hD
  with_reducible refine X_ret (E_nm (Lh ?_))
  exact R_all q
inductive BadV:V→Prop
 | int (n:Int):BadV (.int n)
 | one (x:Int):BadV (.tup [.int x])
 | three (x y z:Int):BadV (.tup [.int x,.int y,.int z])
 | two (a b:Int):¬ ((0≤a∧a < 10 ^ 60)∧(0≤b∧b < 10 ^ 60)∧0 < a+b)→BadV (.tup [.int a,.int b])
 | bi (b:Bool) (x:Int):BadV (.tup [.bool b,.int x])
 | ib (x:Int) (b:Bool):BadV (.tup [.int x,.bool b])
 | is (x:Int) (s:Str):PyData.strOk s=true→BadV (.tup [.int x,.str s])
 | si (s:Str) (x:Int):PyData.strOk s=true→BadV (.tup [.str s,.int x])
 | ni (x:Int):BadV (.tup [.none,.int x])
theorem BadV.lt {x:V} (h:BadV x) (n:Nat):x.lt n:=by cases h <;> simp [V.lt,Vs.lt]
theorem BadV.shareR {x:V} (h:BadV x) (σ:List AObj):ShareR σ x∧shareB x=false:=by
 cases h with
 | int n=>exact ⟨.non _ ⟨_,.int _,isi_int_tuple⟩,rfl⟩
 | one x=>exact ⟨.one _,rfl⟩
 | three x y z=>exact ⟨.three _ _ _,rfl⟩
 | two a b h=>exact ⟨.good a b,decide_eq_false h⟩
 | bi b x=>exact ⟨.left _ _ (.inl ⟨_,rfl⟩),rfl⟩
 | ib x b=>exact ⟨.right _ _ (.inl ⟨_,rfl⟩),rfl⟩
 | is x s=>exact ⟨.right _ _ (.inr ⟨_,.str _,isi_str_int⟩),rfl⟩
 | si s x=>exact ⟨.left _ _ (.inr ⟨_,.str _,isi_str_int⟩),rfl⟩
 | ni x=>exact ⟨.left _ _ (.inr ⟨_,.none,isi_NoneType_int⟩),rfl⟩
noncomputable abbrev P_odd_share:List V→List AObj→(V→List AObj→Prop)→XT→Prop:=(fun xs σ Q X=>∃ c,xs=[.int c]∧(∀ x,BadV x→Q x σ)∧(∀ far:Int,Q (.ref σ.length) (σ++[.list [.int far,.int 1]])))
theorem good_odd_share:Good (dr pw_uf050040_08 42) ["_law_cell"] :=
 ⟨fun pm code doc vals h=>(by obtain ⟨a,rfl⟩:=len_1 h;rfl),by decide +kernel,by decide +kernel,by decide +kernel,rfl,rfl,rfl⟩
theorem cf_odd_share (gl:Gl B mg mb) (bl:Blt B mg mb) (S:Scr B scr nums) (H:HasF B mg (dr pw_uf050040_08 42)) :
  CF prog w B mg "_law_odd_share" 1 P_odd_share:=by
 refine CF_of gl H good_odd_share ?_
 rintro A pm code doc L a₀ _ σ Q X hA ⟨c,rfl,q1,q2⟩
 refine ⟨rfl,?_⟩
 change WX _ _ _ _ _ (_ :: _) ((_,_) :: []) _ _ _
 with_reducible refine X_let (E_bin (E_bin (E_nm (Lh (E_int (O_div (E_int (O_mod (X_let (E_list (Ec (E_tuple (Ec (E_int (Ec (E_int (En (An (Ec (E_list (Ec (E_nm (Lh (Ec (E_int (En (An (Ec (E_tuple (Ec (E_nm (Lh (En (An (Ec (E_tuple (Ec (E_nm (Lh (Ec (E_int (Ec (E_int (En (An (Ec (E_tuple (Ec (E_bin (E_nm (Lh (E_int (O_sub (Ec (E_int (En (An (Ec (E_tuple (Ec (E_bin (E_bin (E_int (E_int (O_pow60 (E_nm (Lh (O_add (Ec (E_int (En (An (Ec (E_tuple (Ec (E_int (Ec (E_bin (E_int (E_int (O_pow60 (En (An (Ec (E_tuple (Ec (E_bool (Ec (E_nm (Lh (En (An (En (An (X_let (E_bin (E_nm (Lh (E_list (Ec (E_tuple (Ec (E_nm (Lt (Lh (Ec (E_str (En (An (Ec (E_tuple (Ec (E_nm (Lt (Lh (Ec (E_bool (En (An (Ec (E_tuple (Ec (E_int (Ec (E_bool (En (An (Ec (E_tuple (Ec (E_str (Ec (E_nm (Lt (Lh (En (An (Ec (E_tuple (Ec (E_none (Ec (E_nm (Lt (Lh (En (An (En (An ?_))))))))))))))))))))))))))))))))))))))))))))))))))))))))))))))))))))))))))))))))))))))))))))))))))))))))))))))))))))))))))))))))))))))))))))) (by exact qAA))) (by exact qBC) (by decide +kernel)))))))
 refine O_addl at_prev at_end (small_size (by simp)) ?_
 with_reducible refine X_ret (E_sub (E_nm (Lh (E_bin (E_nm (Lt (Lt (Lt (Lh (E_int (O_mod ?_ (by exact qBC))))))))))))
 refine S_list at_end (by exact qHg) (by simp only [List.length_append,List.length_cons,List.length_nil];exact qHd) (by exact qE9) ?_
 have hlt:(c % 13).toNat < 13:=by exact qCh
 generalize (c % 13).toNat=j at hlt
 have h5:0≤c / 13 % 5∧c / 13 % 5 < 5:=by exact qG7
 generalize c / 13 % 5=far at h5
 have bad:∀ x ρ σ',BadV x→retQ σ Q (.ret x) ρ (σ++σ'):=fun x ρ σ' h=>R_none (h.lt _) (q1 x h)
 simp only [List.append_assoc]
 rcases j with _ | _ | _ | _ | _ | _ | _ | _ | _ | _ | _ | _ | _ | j
 ·exact bad _ _ _ (.two _ _ (by decide))
 ·exact R_one0 (by simp [AObj.lt,Vs.lt,V.lt]) (q2 far)
 ·exact bad _ _ _ (.one _)
 ·exact bad _ _ _ (.three _ _ _)
 ·exact bad _ _ _ (.two _ _ (by exact qDF h5))
 ·exact bad _ _ _ (.two _ _ (by exact qDq h5))
 ·exact bad _ _ _ (.two _ _ (by exact qF6))
 ·exact bad _ _ _ (.bi _ _)
 ·exact bad _ _ _ (.is _ _ (by decide +kernel))
 ·exact bad _ _ _ (.ib _ _)
 ·exact bad _ _ _ (.ib _ _)
 ·exact bad _ _ _ (.si _ _ (by decide +kernel))
 ·exact bad _ _ _ (.ni _)
 ·omega
inductive P_odd_by (xs:List V) (σ:List AObj) (Q:V→List AObj→Prop) (X:XT):Prop
 | mk:∀ c kd D n a b,(σ[kd]?=some (.dict (pgE D) none))→(PgOk6 D)→(D.length≤50)→(isNameS n=true)→(xs=[.int c,.ref kd,.str n,.tup [.int a,.int b]])→(∀ x more,BadPage (σ++more) x→Q x (σ++more))→P_odd_by xs σ Q X
theorem good_odd_by:Good (dr pw_uf050040_08 43) ["_law_cell","_law_known","_law_name","_law_share_here"] :=
 ⟨fun pm code doc vals h=>(by obtain ⟨a,b,c,d,rfl⟩:=len_4 h;rfl),by decide +kernel,by decide +kernel,by decide +kernel,rfl,rfl,rfl⟩
theorem cf_odd_by (gl:Gl B mg mb) (bl:Blt B mg mb) (S:Scr B scr nums) (H:HasF B mg (dr pw_uf050040_08 43))
  (c_name_by:CF prog w B mg "_law_name_by" 2 P_name_by)
  (c_odd_share:CF prog w B mg "_law_odd_share" 1 P_odd_share) :
  CF prog w B mg "_law_odd_by" 3 P_odd_by:=by
 refine CF_of gl H good_odd_by ?_
 rintro A pm code doc L a₀ _ σ Q X hA ⟨c,kd,D,n,a,b,hk,okD,hDl,hn,rfl,q⟩
 refine ⟨rfl,?_⟩
 change WX _ _ _ _ _ (_ :: _) ((_,_) :: (_,_) :: (_,_) :: (_,_) :: []) _ _ _
 have hnl:=isNameS_len hn
 have s1:∀ {N:Nat} {G:List (Key×V)},G8 N G→N≤1000→G.length≤sizeLine:=fun g h=>small_size (Nat.le_trans g.len (Nat.le_trans h (by decide)))
 with_reducible refine X_let (E_bi bl.dict_ (.type _) (Ec (E_nm (Lt (Lh (En ?_))))))
 refine C_dict_copy hk (small_size (by rw [pgE_length];exact qAt hDl)) ?_
 with_reducible refine X_set (E_tuple (Ec (E_sub (E_nm (Lt (Lt (Lt (Lt (Lh (E_int (S_t0 (Ec (E_bin (E_sub (E_nm (Lt (Lt (Lt (Lt (Lh (E_int (S_t1 (E_int (O_add (En (An (E_nm (Lh (E_nm (Lt (Lt (Lt (Lh ?_)))))))))))))))))))))))))))))))))
 refine P_dict (key:=.s n) at_end (small_size (by rw [pgE_length];exact qAt hDl)) ?_
 rw [set_end]
 have g0:=(((G8.pg okD).put (x:=n) (a:=a) (b:=b+1) (by exact qBZ hnl)).mono (M:=51) (by exact qEK hDl))
 generalize put (pgE D) (.s n) (.tup [.int a,.int (b+1)])=G at g0 ⊢
 with_reducible refine X_let (E_bin (E_nm (Lt (Lh (E_int (O_mod ?_ (by exact qBv)))))))
 refine X_ifj (ι:=List (Key×V)) (fun G=>G8 52 G∧(c % 9=0→pageB G=false)) (fun _=>[("_law_kind_here",.int (c % 9)),("_law_page",.ref σ.length),("_law_cell",.int c),("_law_name",.str n)]) (fun G=>σ++[.dict G none]) ?_ ?_
 ·with_reducible refine T_cmp1 (E_nm (Lh (E_int (O_eq (T_b ?_)))))
  refine iteD (fun h=>?_) (fun h=>?_)
  ·with_reducible refine X_set (E_tuple (Ec (E_int (Ec (E_int (En (An (E_nm (Lt (Lh (E_str ?_)))))))))))
   refine P_dict (key:=.s _) at_end (s1 g0 (by decide)) ?_
   rw [set_end]
   with_reducible refine X_nil ?_
   exact J_next _ ⟨g0.put (by decide +kernel),fun _=>page_bad (put_has _ _ _) (by decide +kernel)⟩ rfl (by with_reducible (refine Sub.c (Lh ⟨rfl,(Sub.c (Lt (Lh ⟨rfl,(Sub.c (Lt (Lt (Lh ⟨rfl,(Sub.c (Lt (Lt (Lt (Lt (Lh ⟨rfl,?_⟩))))))⟩))))⟩)))⟩);exact Sub.nil))
  ·with_reducible refine X_nil ?_
   exact J_next G ⟨g0.mono (by decide),fun e=>absurd e h⟩ rfl (by with_reducible (refine Sub.c (Lh ⟨rfl,(Sub.c (Lt (Lh ⟨rfl,(Sub.c (Lt (Lt (Lh ⟨rfl,(Sub.c (Lt (Lt (Lt (Lt (Lh ⟨rfl,?_⟩))))))⟩))))⟩)))⟩);exact Sub.nil))
 clear g0 G
 rintro G ⟨g0,hb⟩
 try dsimp only
 refine X_ifj (ι:=List (Key×V)) (fun G=>G8 253 G∧(c % 9 < 2→pageB G=false)) (fun _=>[("_law_kind_here",.int (c % 9)),("_law_page",.ref σ.length),("_law_cell",.int c),("_law_name",.str n)]) (fun G=>σ++[.dict G none]) ?_ ?_
 ·with_reducible refine T_cmp1 (E_nm (Lh (E_int (O_eq (T_b ?_)))))
  refine iteD (fun h=>?_) (fun h=>?_)
  ·refine X_fors ?_
   with_reducible refine E_bi bl.range_ (.type _) (Ec (E_int (En (C_range1 ?_))))
   refine ForG.mk (ι:=List (Key×V)) (fun i G=>G8 (52+i) G∧∀ j,j < i→Key.s (nq j)∈G.map (·.1)) (fun _ _=>[("_law_kind_here",.int (c % 9)),("_law_page",.ref σ.length),("_law_cell",.int c),("_law_name",.str n)]) (fun _ G=>σ++[.dict G none]) (It_range hA.handled (by decide) (by decide) (by decide) (by decide)) G ⟨g0,fun j hj=>absurd hj (Nat.not_lt_zero j)⟩ rfl trivial (by with_reducible (refine Sub.c ?_;refine Lh ?_;refine ⟨rfl,?_⟩;refine Sub.c ?_;refine Lt ?_;refine Lh ?_;refine ⟨rfl,?_⟩;refine Sub.c ?_;refine Lt ?_;refine Lt ?_;refine Lh ?_;refine ⟨rfl,?_⟩;refine Sub.c ?_;refine Lt ?_;refine Lt ?_;refine Lt ?_;refine Lh ?_;refine ⟨rfl,?_⟩;exact Sub.nil)) ?_ ?_
   ·clear g0 hb G
    rintro i G hi ⟨g,hG⟩ -
    have hi':i < 201:=hi
    with_reducible refine X_let (E_str (X_set (E_tuple (Ec (E_int (Ec (E_nm (Lt (Lh (En (An (E_nm (Lt (Lt (Lt (Lh (E_bin (E_bin (E_sub (E_nm (Lh (E_bin (E_nm (Lt (Lh (E_int (O_mod ?_ (by exact qAG))))))))))))))))))))))))))))
    refine S_str (by exact qHj) (by rw [show (Str.ofString "abcdefghijklmnopqrstuvwxyz").cps.size=26 from letters_size];exact qB8) (by exact qFX) ?_
    rw [show signAt (Str.ofString "abcdefghijklmnopqrstuvwxyz") ((0+(i:Int)) % 26).toNat=_ from letters_sign (by exact qEl)]
    with_reducible refine E_sub (E_nm (Lh (E_bin (E_nm (Lt (Lh (E_int (O_div ?_ (by exact qAG) (by decide +kernel)))))))))
    refine S_str (by exact qG2) (by rw [show (Str.ofString "abcdefghijklmnopqrstuvwxyz").cps.size=26 from letters_size];exact qFb hi) (by exact qCJ hi) ?_
    rw [show signAt (Str.ofString "abcdefghijklmnopqrstuvwxyz") ((0+(i:Int)) / 26).toNat=_ from letters_sign (by exact qFc hi)]
    refine O_adds ?_ (small_size (by show 1+1≤100000;decide))
    with_reducible refine E_str ?_
    refine O_adds ?_ (small_size (by show 2+1≤100000;decide))
    rw [show ((0+(i:Int)) % 26).toNat=i % 26 from by exact qEE,show ((0+(i:Int)) / 26).toNat=i / 26 from by exact qGM]
    refine P_dict (key:=.s (nq i)) at_end (s1 g (by exact qD8 hi)) ?_
    rw [set_end]
    with_reducible refine X_nil ?_
    refine TJ_next _ ⟨g.put (by rw [nq_len];decide),fun j hj=>?_⟩ rfl trivial (by with_reducible (refine Sub.c (Lt (Lt (Lh ⟨rfl,(Sub.c (Lt (Lt (Lt (Lh ⟨rfl,(Sub.c (Lt (Lt (Lt (Lt (Lh ⟨rfl,(Sub.c (Lt (Lt (Lt (Lt (Lt (Lh ⟨rfl,?_⟩)))))))⟩))))))⟩)))))⟩)));exact Sub.nil))
    rcases Nat.lt_or_eq_of_le (Nat.le_of_lt_succ hj) with hj | rfl
    ·exact put_keys (hG j hj)
    ·exact List.mem_map.mpr ⟨_,put_has _ _ _,rfl⟩
   ·clear g0 hb G
    rintro G ⟨g,hG⟩ -
    with_reducible refine X_nil ?_
    exact J_next G ⟨g.mono (by decide),fun _=>long_page hG⟩ rfl (by with_reducible (refine Sub.c (Lh ⟨rfl,(Sub.c (Lt (Lh ⟨rfl,(Sub.c (Lt (Lt (Lh ⟨rfl,(Sub.c (Lt (Lt (Lt (Lh ⟨rfl,?_⟩)))))⟩))))⟩)))⟩);exact Sub.nil))
  ·with_reducible refine X_nil ?_
   exact J_next G ⟨g0.mono (by decide),fun e=>hb (by exact qGG h e)⟩ rfl (by with_reducible (refine Sub.c (Lh ⟨rfl,(Sub.c (Lt (Lh ⟨rfl,(Sub.c (Lt (Lt (Lh ⟨rfl,(Sub.c (Lt (Lt (Lt (Lh ⟨rfl,?_⟩)))))⟩))))⟩)))⟩);exact Sub.nil))
 clear g0 hb G
 rintro G ⟨g0,hb⟩
 try dsimp only
 refine X_ifs ?_
 refine T_as (decide (1 < c % 9∧c % 9 < 5)) ?_ ?_
 ·refine T_cmp2 ?_
  with_reducible (refine E_int ?_;refine E_nm ?_;refine Lh ?_;refine O_lt ?_;refine T_b ?_)
  refine iteD (fun h=>?_) (fun h=>?_)
  ·with_reducible (refine E_int ?_;refine O_lt ?_;refine T_b ?_)
   exact ⟨by simp [h],rfl⟩
  ·exact ⟨by simp [h],rfl⟩
 have fin:∀ (x:V) (υ:List AObj),ShareR (σ++[.dict (put G (.s (nameBy (c / 585))) x) none]++υ) x→shareB x=false→Q (.ref σ.length) (σ++[.dict (put G (.s (nameBy (c / 585))) x) none]++υ):=fun x υ h1 h2=>by
  have:=q (.ref σ.length) ([.dict (put G (.s (nameBy (c / 585))) x) none]++υ)
  rw [← List.append_assoc] at this
  exact this (g0.badV (by decide) (by have:=(isNameS_len (nameBy_ok (c / 585))).2;exact qAf this) h1 h2 (up_at at_end))
 refine iteD (fun h=>?_) (fun h=>?_)
 ·with_reducible (refine X_set ?_;refine E_cf ‹_› (hA.le (by decide)) ?_;refine Ec ?_;refine E_bin ?_;refine E_nm ?_;refine Lt ?_;refine Lt ?_;refine Lh ?_;refine E_int ?_;refine O_div ?_ (by exact qBv) (by decide +kernel);refine En ?_;refine ⟨_,rfl,?_⟩)
  constructor
  ·intro x hx
   with_reducible (refine E_nm ?_;refine Lt ?_;refine Lh ?_;refine E_cf ‹_› (hA.le (by decide)) ?_;refine Ec ?_;refine E_bin ?_;refine E_nm ?_;refine Lt ?_;refine Lt ?_;refine Lh ?_;refine E_int ?_;refine O_div ?_ (by exact qA2) (by decide +kernel);refine En ?_;refine ⟨_,rfl,?_⟩)
   refine P_dict (key:=.s (nameBy (c / 585))) at_end (s1 g0 (by decide)) ?_
   rw [set_end]
   with_reducible refine X_nil (sq_next ?_)
   refine X_ifs ?_
   with_reducible refine T_cmp1 (E_nm (Lh (E_int (O_lt (T_b ?_)))))
   rw [decide_eq_true h.2]
   with_reducible (refine iteT ?_;refine X_ret ?_;refine E_nm ?_;refine Lt ?_;refine Lh ?_;refine sq_ret ?_)
   refine R_all ?_
   have:=fin x [] (hx.shareR _).1 (hx.shareR []).2
   rwa [List.append_nil] at this
  ·intro far
   have ez:(σ++[AObj.dict G none]).length=σ.length+1:=List.length_append
   rw [ez]
   with_reducible (refine E_nm ?_;refine Lt ?_;refine Lh ?_;refine E_cf ‹_› (hA.le (by decide)) ?_;refine Ec ?_;refine E_bin ?_;refine E_nm ?_;refine Lt ?_;refine Lt ?_;refine Lh ?_;refine E_int ?_;refine O_div ?_ (by exact qA2) (by decide +kernel);refine En ?_;refine ⟨_,rfl,?_⟩)
   refine P_dict (key:=.s (nameBy (c / 585))) at_prev (s1 g0 (by decide)) ?_
   rw [set_prev]
   with_reducible refine X_nil (sq_next ?_)
   refine X_ifs ?_
   with_reducible refine T_cmp1 (E_nm (Lh (E_int (O_lt (T_b ?_)))))
   rw [decide_eq_true h.2]
   with_reducible refine iteT (X_ret (E_nm (Lt (Lh (sq_ret ?_)))))
   refine R_all (fin _ _ (.non _ ⟨_,.list (xs:=[.int far,.int 1]) ?_,isi_list_tuple⟩) rfl)
   have:=at_end (σ:=σ++[AObj.dict (put G (.s (nameBy (c / 585))) (.ref (σ.length+1))) none]) (ob:=AObj.list [.int far,.int 1])
   rw [List.length_append] at this
   exact this
 ·with_reducible refine X_nil (sq_next ?_)
  refine X_ifs ?_
  with_reducible refine T_cmp1 (E_nm (Lh (E_int (O_lt (T_b ?_)))))
  refine iteD (fun h5=>?_) (fun h5=>?_)
  ·with_reducible refine X_ret (E_nm (Lt (Lh (sq_ret ?_))))
   exact R_all (q _ _ (g0.bad (by decide) at_end (hb (by exact qE5 h h5))))
  ·with_reducible refine X_nil (sq_next (X_ret (E_sub (E_list (Ec (E_none (Ec (E_list (Ec (E_nm (Lt (Lh (En (An (Ec (E_tuple (Ec (E_nm (Lt (Lt (Lt (Lh (En (An (Ec (E_nm (Lt (Lt (Lt (Lh (En (An (E_bin (E_nm (Lh (E_int (O_sub ?_)))))))))))))))))))))))))))))))))))))
   refine S_list at_end (by exact qG9 h5) (by simp only [List.length_cons,List.length_nil];exact qCp) (by exact qDV) ?_
   rw [List.append_assoc,List.append_assoc]
   have hj:c % 9=5∨c % 9=6∨c % 9=7∨c % 9=8:=by exact qC7 h5
   rcases hj with h | h | h | h <;> rw [h]
   ·exact R_all (q _ _ (.inr ⟨_,.none,isi_NoneType_dict⟩))
   ·refine R_all (q _ _ (.inr ⟨_,.list (xs:=[.ref σ.length]) ?_,isi_list_dict⟩))
    rw [← List.append_assoc,← List.append_assoc];exact at_prev
   ·exact R_all (q _ _ (.inr ⟨_,.tup _,isi_tuple_dict⟩))
   ·exact R_all (q _ _ (.inr ⟨_,.str _,isi_str_dict⟩))
inductive P_heard (xs:List V) (σ:List AObj) (Q:V→List AObj→Prop) (X:XT):Prop
 | mk:∀ k n p kn x,(HandAt σ k n p kn)→(p.length≤50)→(xs=[.ref k,x])→(((BadPage σ x∧Q (.str "page") σ)∨∃ kp r e,x=.ref kp∧σ[kp]?=some (.dict (pgE r) e)∧PgOk6 r∧r.length≤200∧((reach (look p n) (look r n)=false∧Q (.str "forged") σ)∨(reach (look p n) (look r n)=true∧∀ σ' kd',σ.length≤kd'→HandD σ' k n (joins p r) kn kd'→Upd kn σ σ'→Q (.int (lacks p r).length) σ'))))→P_heard xs σ Q X
theorem good_heard:Good (dr pw_uf050040_08 44) ["_law_hand","_law_page"] :=
 ⟨fun pm code doc vals h=>(by obtain ⟨a,b,rfl⟩:=len_2 h;rfl),by decide +kernel,by decide +kernel,by decide +kernel,rfl,rfl,rfl⟩
theorem cf_heard (gl:Gl B mg mb) (bl:Blt B mg mb) (S:Scr B scr nums) (H:HasF B mg (dr pw_uf050040_08 44)) (k_Hand:Cls B 242 ["name","heard"] [("__init__",183),("grown",190),("up",197),("down",204),("page",211),("told",218),("letter",225),("trusts",232),("hear",239)]) (e_GossipError:Err B K 24 vErr) (g_GossipError:GC B mg "GossipError" (.raw (.ref 24))) (e_NoName:Err B K 37 (.ref 24 :: vErr)) (g_NoName:GC B mg "NoName" (.raw (.ref 37))) (e_NoAmount:Err B K 49 (.ref 24 :: vErr)) (g_NoAmount:GC B mg "NoAmount" (.raw (.ref 49))) (e_NoPage:Err B K 61 (.ref 24 :: vErr)) (g_NoPage:GC B mg "NoPage" (.raw (.ref 61))) (e_Forged:Err B K 73 (.ref 24 :: vErr)) (g_Forged:GC B mg "Forged" (.raw (.ref 73))) (e_NoNote:Err B K 85 (.ref 24 :: vErr)) (g_NoNote:GC B mg "NoNote" (.raw (.ref 85)))
  (c_Hand_hear:CM prog w B 239 5 P_Hand_hear)
  (c_kind:CF0 prog w B mg "_law_kind" 1 P_kind) :
  CF prog w B mg "_law_heard" 7 P_heard:=by
 refine CF_of gl H good_heard ?_
 rintro A pm code doc L a₀ _ σ Q X hA ⟨k,n,p,kn,x,hh,hpl,rfl,hq⟩
 refine ⟨rfl,?_⟩
 change WX _ _ _ _ _ (_ :: _) ((_,_) :: (_,_) :: []) _ _ _
 obtain ⟨kd,h1,h2,h3⟩:=id hh
 refine X_try [] (fun C τ=>(C=61∨C=73)∧τ=σ∧∀ w,KindOf C w→Q (.str w) σ) e_GossipError.o g_GossipError ?_ ?_
 ·refine X_ret (E_x Sub.nil ?_)
  refine E_mcallv ?_
  with_reducible refine E_nm (Lh ?_)
  refine ⟨.ref 239,GM_inst k_Hand h1 h2 rfl (by kernel_rfl!),c_Hand_hear.1,?_⟩
  with_reducible refine Ec (E_nm (Lt (Lh (En ?_))))
  refine C_cm c_Hand_hear (hA.le (by decide)) ⟨_,k,n,p,kn,x,.inl rfl,hh,hpl,rfl,?_⟩
  rcases hq with ⟨hb,q⟩ | ⟨kp,r,e,rfl,hp,okr,hr,⟨ht,q⟩ | ⟨ht,q⟩⟩
  ·exact .inl ⟨hb,.inl rfl,rfl,fun w hw=>by cases hw;exact q⟩
  ·exact .inr ⟨kp,r,e,rfl,hp,okr,hr,.inl ⟨ht,.inr rfl,rfl,fun w hw=>by cases hw;exact q⟩⟩
  ·refine .inr ⟨kp,r,e,rfl,hp,okr,hr,.inr ⟨ht,fun σ' kd' a b d=>?_⟩⟩
   with_reducible refine sq_ret ?_
   exact R_all (q σ' kd' a b d)
 ·rintro e C t τ junk ⟨hC,rfl,q⟩
  have hk:∃ w,KindOf C w∧Err B K C (.ref 24 :: vErr)∧(Value.ref C :: .ref 24 :: vErr).contains (.ref 24)=true:=by
   rcases hC with rfl | rfl
   ·exact ⟨_,.page,e_NoPage,by decide⟩
   ·exact ⟨_,.forged,e_Forged,by decide⟩
  obtain ⟨w,hw,eC,hc⟩:=hk
  refine ⟨⟨_,eC.o,hc⟩,?_⟩
  with_reducible refine X_ret ?_
  refine E_cf0 c_kind (AOk0.le (AOk.ok0 hA) (by decide)) ?_
  with_reducible refine Ec (E_nm (Lh (En ?_)))
  refine ⟨_,_,_,_,rfl,exc_here,hw,?_⟩
  with_reducible refine ⟨_,rfl,?_⟩
  exact R_none trivial (q _ hw)
inductive P_lettered (xs:List V) (σ:List AObj) (Q:V→List AObj→Prop) (X:XT):Prop
 | mk:∀ k n p kn x,(HandAt σ k n p kn)→(p.length≤50)→(BadPage σ x)→(xs=[.ref k,x])→(Q (.bool true) σ)→P_lettered xs σ Q X
theorem good_lettered:Good (dr pw_uf050040_08 45) ["_law_hand","_law_page"] :=
 ⟨fun pm code doc vals h=>(by obtain ⟨a,b,rfl⟩:=len_2 h;rfl),by decide +kernel,by decide +kernel,by decide +kernel,rfl,rfl,rfl⟩
theorem cf_lettered (gl:Gl B mg mb) (bl:Blt B mg mb) (S:Scr B scr nums) (H:HasF B mg (dr pw_uf050040_08 45)) (k_Hand:Cls B 242 ["name","heard"] [("__init__",183),("grown",190),("up",197),("down",204),("page",211),("told",218),("letter",225),("trusts",232),("hear",239)]) (e_GossipError:Err B K 24 vErr) (g_GossipError:GC B mg "GossipError" (.raw (.ref 24))) (e_NoName:Err B K 37 (.ref 24 :: vErr)) (g_NoName:GC B mg "NoName" (.raw (.ref 37))) (e_NoAmount:Err B K 49 (.ref 24 :: vErr)) (g_NoAmount:GC B mg "NoAmount" (.raw (.ref 49))) (e_NoPage:Err B K 61 (.ref 24 :: vErr)) (g_NoPage:GC B mg "NoPage" (.raw (.ref 61))) (e_Forged:Err B K 73 (.ref 24 :: vErr)) (g_Forged:GC B mg "Forged" (.raw (.ref 73))) (e_NoNote:Err B K 85 (.ref 24 :: vErr)) (g_NoNote:GC B mg "NoNote" (.raw (.ref 85)))
  (c_Hand_letter:CM prog w B 225 4 P_Hand_letter)
  (c_kind:CF0 prog w B mg "_law_kind" 1 P_kind) :
  CF prog w B mg "_law_lettered" 7 P_lettered:=by
 refine CF_of gl H good_lettered ?_
 rintro A pm code doc L a₀ _ σ Q X hA ⟨k,n,p,kn,x,hh,hpl,hb,rfl,q⟩
 refine ⟨rfl,?_⟩
 change WX _ _ _ _ _ (_ :: _) ((_,_) :: (_,_) :: []) _ _ _
 obtain ⟨kd,h1,h2,h3⟩:=id hh
 refine X_try [] (fun C τ=>C=61∧τ=σ) e_GossipError.o g_GossipError ?_ ?_
 ·refine X_ret (E_x Sub.nil ?_)
  refine E_mcallv ?_
  with_reducible refine E_nm (Lh ?_)
  refine ⟨.ref 225,GM_inst k_Hand h1 h2 rfl (by kernel_rfl!),c_Hand_letter.1,?_⟩
  with_reducible refine Ec (E_nm (Lt (Lh (En ?_))))
  exact C_cm c_Hand_letter (hA.le (by decide)) ⟨_,k,n,p,kn,x,.inl rfl,hh,by exact qAB hpl,rfl,.inl ⟨hb,rfl,rfl⟩⟩
 ·rintro e C t τ junk ⟨rfl,rfl⟩
  refine ⟨⟨_,e_NoPage.o,by decide⟩,?_⟩
  with_reducible refine X_ret (E_cmp1 ?_)
  refine E_cf0 c_kind (AOk0.le (AOk.ok0 hA) (by decide)) ?_
  with_reducible refine Ec (E_nm (Lh (En ?_)))
  refine ⟨_,_,_,_,rfl,exc_here,.page,?_⟩
  with_reducible refine E_str (O_eqs ⟨_,rfl,?_⟩)
  exact R_none trivial q
theorem good_page_for:Good (dr pw_uf050040_08 46) ["_law_script","_law_k","_law_known","_law_name","_law_share_here"] :=
 ⟨fun pm code doc vals h=>(by obtain ⟨a,b,c,d,e,rfl⟩:=len_5 h;rfl),by decide +kernel,by decide +kernel,by decide +kernel,rfl,rfl,rfl⟩
theorem cf_page_for (gl:Gl B mg mb) (bl:Blt B mg mb) (S:Scr B scr nums) (H:HasF B mg (dr pw_uf050040_08 46))
  (c_page_by:CF prog w B mg "_law_page_by" 3 P_page_by)
  (c_odd_by:CF prog w B mg "_law_odd_by" 3 P_odd_by)
  (c_near_by:CF prog w B mg "_law_near_by" 3 P_near_by) :
  CF prog w B mg "_law_page_for" 5 (fun xs σ Q X=>∃ (k:Int) (kd:Nat) (D:Pg) (n:Str) (a b:Int),(0≤k∧k < nums.length)∧σ[kd]?=some (.dict (pgE D) none)∧PgOk6 D∧D.length≤50∧isNameS n=true∧(0≤a∧a≤14∧0≤b∧b≤2)∧xs=[.raw (.ref scr),.int k,.ref kd,.str n,.tup [.int a,.int b]]∧∀ x more,PF8 (nums.getD k.toNat 0) (σ++more) x→Q x (σ++more)):=by
 refine CF_of gl H good_page_for ?_
 rintro A pm code doc L a₀ _ σ Q X hA ⟨k,kd,D,n,a,b,⟨hk0,hkl⟩,hk,okD,hDl,hn,hab,rfl,q⟩
 refine ⟨rfl,?_⟩
 change WX _ _ _ _ _ (_ :: _) ((_,_) :: (_,_) :: (_,_) :: (_,_) :: (_,_) :: []) _ _ _
 with_reducible refine X_let (E_bin (E_sub (E_nm (Lh (E_nm (Lt (Lh ?_)))))))
 refine S_scr S hk0 hkl ?_
 with_reducible refine E_int (O_div (X_let (E_bin (E_sub (E_nm (Lt (Lh (E_nm (Lt (Lt (Lh ?_)))))))))) (by exact qAA) (by decide +kernel))
 refine S_scr S hk0 hkl ?_
 generalize nums.getD k.toNat 0=c at q ⊢
 with_reducible refine E_int (O_mod ?_ (by exact qAA))
 refine X_ifs ?_
 with_reducible refine T_cmp1 (E_nm (Lh (E_int (O_eq (T_b ?_)))))
 have good:∀ {ρ:List (Str×V)} {r:Pg} {m:List AObj},c % 5≠3→PgOk6 r→r.length≤200→∀ {z:Nat},z=(σ++m).length→retQ σ Q (.ret (.ref z)) ρ (σ++m++[.dict (pgE r) none]):=fun {ρ r m} h ok hl {z} e=>by
  subst e
  have:=q (.ref (σ++m).length) (m++[.dict (pgE r) none]) (.inr ⟨h,_,r,rfl,by rw [← List.append_assoc];exact at_end,ok,hl⟩)
  rw [← List.append_assoc] at this
  exact R_all this
 refine iteD (fun h=>?_) (fun h=>?_)
 ·with_reducible refine X_let (E_bin (E_nm (Lt (Lh (E_int (O_mod ?_ (by exact qAP)))))))
  refine X_ifj (ι:=Int×List AObj) (fun x=>0≤x.1∧x.1≤200) (fun x=>[("_law_size",.int x.1),("_law_cell",.int (c / 5)),("_law_k",.int k)]) (fun x=>σ++x.2) ?_ ?_
  ·with_reducible refine T_cmp1 (E_bin (E_bin (E_nm (Lt (Lt (Lh (E_int (O_div (E_int (O_mod (E_int (O_eq (T_b ?_))) (by exact qAp))) (by exact qAP) (by decide +kernel)))))))))
   refine iteD (fun h=>?_) (fun h=>?_)
   ·with_reducible refine X_let (E_bin (E_int (E_bin (E_bin (E_nm (Lt (Lt (Lh (E_int (O_div (E_sub (E_list (Ec (E_int (Ec (E_int (En (An (E_bi bl.int_ (.type _) (Ec (E_cmp1 (E_bi bl.len_ (.builtin _) (Ec (E_nm (Lt (Lt (Lt (Lt (Lt (Lh (En ?_))))))))))))))))))))) (by exact qG0) (by decide +kernel)))))))))))
    refine C_len_dict (up_at hk) (by rw [pgE_length];exact qEo hDl) ?_
    with_reducible refine E_int (O_lt (En ?_))
    refine C_int_bool ?_
    obtain ⟨m,e1,e2,e3,e4⟩:∃ m:Int,[V.int 100,V.int 155].getD ((if decide ((((pgE D).length:Nat):Int) < 2)=true then 1 else 0:Int)).toNat .none=.int m∧0 < m∧m≤155∧(0≤(if decide ((((pgE D).length:Nat):Int) < 2)=true then 1 else 0:Int)∧(if decide ((((pgE D).length:Nat):Int) < 2)=true then 1 else 0:Int) < 2):=by
     split
     ·exact ⟨155,rfl,by decide,by decide,by decide⟩
     ·exact ⟨100,rfl,by decide,by decide,by decide⟩
    refine S_list at_end e4.1 e4.2 (Int.lt_trans e4.2 (by decide)) ?_
    rw [e1]
    refine O_mod ?_ e2
    have a1:=Int.emod_lt_of_pos (c / 5 / 32) e2
    have a0:=Int.emod_nonneg (c / 5 / 32) (Int.ne_of_gt e2)
    with_reducible refine O_add (X_nil ?_)
    exact J_next (45+c / 5 / 32 % m,[.list [.int 100,.int 155]]) (by dsimp only;exact qF8 e3 a1 a0) rfl (by with_reducible (refine Sub.c (Lh ⟨rfl,(Sub.c (Lt (Lt (Lt (Lh ⟨rfl,(Sub.c (Lt (Lt (Lt (Lt (Lt (Lh ⟨rfl,?_⟩)))))))⟩)))))⟩);exact Sub.nil))
   ·with_reducible refine X_nil ?_
    exact J_next (c / 5 % 4,[]) (by dsimp only;exact qFG) (List.append_nil σ).symm (by with_reducible (refine Sub.c (Lh ⟨rfl,(Sub.c (Lt (Lt (Lh ⟨rfl,(Sub.c (Lt (Lt (Lt (Lt (Lh ⟨rfl,?_⟩))))))⟩))))⟩);exact Sub.nil))
  ·rintro ⟨z,m⟩ ⟨hz0,hz⟩
   try dsimp only
   with_reducible refine X_ret (E_cf ‹_› (hA.le (by decide)) (Ec (E_bin (E_nm (Lt (Lh (E_int (O_div (Ec (E_bin (E_bin (E_nm (Lt (Lh (E_int (O_div (E_nm (Lt (Lt (Lh (O_add (Ec (E_nm (Lh (En ?_))))))))) (by exact qAP) (by decide +kernel))))))))) (by exact qAP) (by decide +kernel)))))))))
   refine ⟨_,_,z,rfl,⟨hz0,hz⟩,fun page ok hl=>?_⟩
   with_reducible refine sq_ret ?_
   exact good (by exact qHT h) ok (by omega) rfl
 ·with_reducible refine X_nil (sq_next ?_)
  refine X_ifs ?_
  with_reducible refine T_cmp1 (E_nm (Lh (E_int (O_eq (T_b ?_)))))
  refine iteD (fun h3=>?_) (fun h3=>?_)
  ·with_reducible refine X_ret (E_cf ‹_› (hA.le (by decide)) (Ec (E_nm (Lt (Lh (Ec (E_nm (Lt (Lt (Lt (Lt (Lh (Ec (E_nm (Lt (Lt (Lt (Lt (Lt (Lh (Ec (E_nm (Lt (Lt (Lt (Lt (Lt (Lt (Lh (En ?_))))))))))))))))))))))))))))))
   refine ⟨_,_,_,_,_,_,hk,okD,hDl,hn,rfl,fun x more hx=>?_⟩
   with_reducible refine sq_ret ?_
   exact R_all (q x more (.inl ⟨h3,hx⟩))
  ·with_reducible refine X_nil (sq_next (X_let (E_cf ‹_› (hA.le (by decide)) (Ec (E_nm (Lt (Lt (Lt (Lt (Lh (Ec (E_nm (Lt (Lh (En ?_)))))))))))))))
   refine ⟨_,_,_,_,hk,okD,by exact qAB hDl,rfl,fun r ok hl=>?_⟩
   refine X_ifs ?_
   with_reducible refine T_cmp1 (E_nm (Lt (Lh (E_int (O_eq (T_b ?_))))))
   refine iteD (fun h2=>?_) (fun h2=>?_)
   ·with_reducible refine X_set (E_tuple (Ec (E_bin (E_sub (E_nm (Lt (Lt (Lt (Lt (Lt (Lt (Lt (Lh (E_int (S_t0 (E_bin (E_nm (Lt (Lt (Lh (E_int (O_mod (O_add (Ec (E_bin (E_bin (E_sub (E_nm (Lt (Lt (Lt (Lt (Lt (Lt (Lt (Lh (E_int (S_t1 (E_int (O_add (E_bin (E_nm (Lt (Lt (Lh (E_int (O_mod (O_sub (En (An (E_nm (Lh (E_nm (Lt (Lt (Lt (Lt (Lt (Lt (Lh ?_))))))))))))) (by exact qAQ)))))))))))))))))))))))))) (by exact qAQ)))))))))))))))))))))))
    refine P_dict (key:=.s n) at_end (small_size (by rw [pgE_length];exact qC1 hDl hl)) ?_
    rw [set_end,show V.tup [.int (a+c / 5 % 2),.int (b+1 - c / 5 % 2)]=shV (a+c / 5 % 2,b+1 - c / 5 % 2) from rfl,put_pg]
    with_reducible refine X_nil (sq_next (X_ret (E_nm (Lh ?_))))
    have:=good (ρ:=[]) (r:=pput r n (a+c / 5 % 2,b+1 - c / 5 % 2)) (m:=[]) h3 (pput_ok6 ok ⟨hn,by dsimp only;exact qED hab⟩) (Nat.le_trans (pput_len _ _ _) (by exact qDp hDl hl)) (z:=σ.length) (by rw [List.append_nil])
    rw [List.append_nil] at this
    exact this
   ·with_reducible refine X_nil (sq_next (X_ret (E_nm (Lh ?_))))
    have:=good (ρ:=[]) (m:=[]) h3 ok (by exact qFO hDl hl) (z:=σ.length) (by rw [List.append_nil])
    rw [List.append_nil] at this
    exact this
inductive P_behind (xs:List V) (σ:List AObj) (Q:V→List AObj→Prop) (X:XT):Prop
 | mk:∀ n a b kp r kd p D,(Inv8 n a b 50 kd σ p D)→(σ[kp]?=some (.dict (pgE r) none))→(PgOk6 r)→(r.length≤200)→(xs=[.ref 1,.ref kp,.ref kd,.str n,.tup [.int a,.int b]])→(∀ σ' p' D' kd',Inv8 n a b 250 kd' σ' p' D'→Q (.ref kd') σ')→P_behind xs σ Q X
theorem good_behind:Good (dr pw_uf050040_08 47) ["_law_hand","_law_page","_law_known","_law_name","_law_share_here"] :=
 ⟨fun pm code doc vals h=>(by obtain ⟨a,b,c,d,e,rfl⟩:=len_5 h;rfl),by decide +kernel,by decide +kernel,by decide +kernel,rfl,rfl,rfl⟩
theorem cf_behind (gl:Gl B mg mb) (bl:Blt B mg mb) (S:Scr B scr nums) (H:HasF B mg (dr pw_uf050040_08 47)) (k_Hand:Cls B 242 ["name","heard"] [("__init__",183),("grown",190),("up",197),("down",204),("page",211),("told",218),("letter",225),("trusts",232),("hear",239)])
  (c_Hand_letter:CM prog w B 225 4 P_Hand_letter)
  (c_Hand_trusts:CM prog w B 232 3 P_Hand_trusts)
  (c_Hand_page:CM prog w B 211 1 P_Hand_page)
  (c_truth:CF prog w B mg "_law_truth" 1 P_truth)
  (c_same:CF prog w B mg "_law_same" 3 P_same)
  (c_l_lacking:CF prog w B mg "_law_lacking" 1 P_l_lacking)
  (c_heard:CF prog w B mg "_law_heard" 7 P_heard)
  (c_whole:CF prog w B mg "_law_whole" 1 P_whole)
  (c_l_joined:CF prog w B mg "_law_joined" 1 P_l_joined) :
  CF prog w B mg "_law_behind" 9 P_behind:=by
 refine CF_of gl H good_behind ?_
 rintro A pm code doc L a₀ _ σ Q X hA ⟨n,a,b,kp,r,kd,p,D,I,hp,okr,hr,rfl,q⟩
 refine ⟨rfl,?_⟩
 change WX _ _ _ _ _ (_ :: _) ((_,_) :: (_,_) :: (_,_) :: (_,_) :: (_,_) :: []) _ _ _
 have hpl:=I.len
 have R:=I.rel
 have hDl:D.length≤50:=by rw [← R.perm.length_eq];exact hpl
 have ho:=I.own
 obtain ⟨kdh,hh⟩:=I.hand
 have B:B8 n kdh kd kp p D r σ:=⟨hh,I.known,hp⟩
 have l1:kdh≠σ.length:=Nat.ne_of_lt (at_len hh.2.2)
 have l2:kd≠σ.length:=Nat.ne_of_lt (at_len I.known)
 have l3:kp≠σ.length:=Nat.ne_of_lt (at_len hp)
 clear I hh hp
 with_reducible refine X_let (E_mcall (name:=Str.ofString "get") (id:="dict.get") (E_nm (Lt (Lh ?_))))
 refine ⟨GM_dict B.page F.slot_dict_get F.type_dict_get,?_⟩
 with_reducible refine Ec (E_nm (Lt (Lt (Lt (Lh (Ec (E_tuple (Ec (E_int (Ec (E_int (En (An (En ?_))))))))))))))
 refine C_get_s B.page ?_
 rw [at_pgD]
 with_reducible refine X_let ?_
 have ht:reach (look p n) (look r n)=decide ((look r n).1≤a∧(look r n).2≤b):=by rw [ho];rfl
 generalize hT:reach (look p n) (look r n)=t at ht
 refine E_as (.bool t) ?_ ?_
 ·refine E_boolop ?_
  with_reducible refine Bo_and (E_cmp1 (E_sub (E_nm (Lh (E_int (S_t0 (E_sub (E_nm (Lt (Lt (Lt (Lt (Lt (Lh (E_int (S_t0 (O_le (T_b ?_))))))))))))))))))
  refine iteD (fun h=>?_) (fun h=>?_)
  ·with_reducible refine Bo_one (E_cmp1 (E_sub (E_nm (Lh (E_int (S_t1 (E_sub (E_nm (Lt (Lt (Lt (Lt (Lt (Lh (E_int (S_t1 (O_le ?_)))))))))))))))))
   exact ⟨by rw [ht];simp [h],rfl⟩
  ·exact ⟨by rw [ht];simp [h],rfl⟩
 clear ht
 with_reducible refine X_let (E_bi bl.dict_ (.type _) (Ec (E_nm (Lt (Lt (Lt (Lh (En ?_))))))))
 refine C_dict_copy B.page (small_size (by rw [pgE_length];exact qAn hr)) ?_
 replace B:=B.up [AObj.dict (pgE r) none]
 have hH:(σ++[AObj.dict (pgE r) none])[σ.length]?=some (.dict (pgE r) none):=at_end
 generalize σ.length=kh at hH l1 l2 l3 ⊢
 generalize σ++[AObj.dict (pgE r) none]=τ at B hH ⊢
 with_reducible refine X_let ?_
 refine E_mcallv ?_
 with_reducible refine E_nm (Lt (Lt (Lt (Lh ?_))))
 refine ⟨.ref 225,GM_inst k_Hand B.hand.1 B.hand.2.1 rfl (by kernel_rfl!),c_Hand_letter.1,?_⟩
 with_reducible refine Ec (E_nm (Lh (En ?_)))
 refine C_cm c_Hand_letter (hA.le (by decide)) ⟨fun _ _=>False,_,n,p,_,_,.inr rfl,B.hand.at_,by exact qAB hpl,rfl,.inr ⟨kh,r,_,rfl,hH,okr,hr,?_⟩⟩
 have B1:=B.up [AObj.dict (pgE (lacks r p)) none]
 refine X_ifs ?_
 with_reducible refine T_bool (Ts_or (T_not (T_value (E_cf ‹_› (hA.le (by decide)) (Ec ?_)))))
 refine E_mcallv ?_
 with_reducible refine E_nm (Lt (Lt (Lt (Lt (Lh ?_)))))
 refine ⟨.ref 232,GM_inst k_Hand B1.hand.1 B1.hand.2.1 rfl (by kernel_rfl!),c_Hand_trusts.1,?_⟩
 with_reducible refine Ec (E_nm (Lt (Lh (En ?_))))
 refine C_cm c_Hand_trusts (hA.le (by decide)) ⟨_,n,p,_,kh,r,_,B1.hand.at_,up_at hH,rfl,?_⟩
 rw [hT]
 with_reducible refine Ec (E_nm (Lt (Lt (Lh (En ⟨_,_,rfl,(T_b ?_)⟩)))))
 rw [beq_self_eq_true]
 with_reducible refine iN (Ts_or (T_not (T_value (E_cf ‹_› (hA.le (by decide)) (Ec (E_nm (Lh (Ec (E_cf ‹_› (hA.le (by decide)) (Ec (E_nm (Lt (Lt (Lt (Lt (Lt (Lh (Ec (E_nm (Lt (Lt (Lt (Lt (Lt (Lt (Lh (En ?_)))))))))))))))))))))))))))
 refine ⟨_,_,_,_,_,_,B1.page,B1.known,by exact qAN hDl,rfl,?_⟩
 with_reducible refine En ?_
 refine ⟨_,_,_,_,_,_,at_prev,at_end,R.letter (by exact qAN hDl),rfl,?_⟩
 clear B1
 with_reducible refine T_b (iN (Ts_or_nil (iteF (X_nil (sq_next (X_do ?_))))))
 refine E_mcall (name:=Str.ofString "clear") (id:="dict.clear") ?_
 with_reducible refine E_nm (Lh ?_)
 refine ⟨GM_dict at_prev slot_dc type_dc,?_⟩
 with_reducible refine En ?_
 refine C_clear_dict at_prev (small_size (by have:=lacks_len (p:=r) R.f.1;rw [pgE_length];exact qBL hpl this)) ?_
 rw [set_prev]
 replace B:=(B.up [AObj.dict [] none]).up [AObj.dict (pgE (D.filter (lackB r))) none]
 replace hH:=up_at (more:=[AObj.dict (pgE (D.filter (lackB r))) none]) (up_at (more:=[AObj.dict [] none]) hH)
 have hE:(τ++[AObj.dict [] none]++[AObj.dict (pgE (D.filter (lackB r))) none])[τ.length]?=some (.dict [] none):=at_prev
 generalize τ.length=ke at hE ⊢
 generalize τ++[AObj.dict [] none]++[AObj.dict (pgE (D.filter (lackB r))) none]=τ at B hH hE ⊢
 with_reducible refine X_let ?_
 refine E_mcallv ?_
 with_reducible refine E_nm (Lt (Lt (Lt (Lt (Lh ?_)))))
 refine ⟨.ref 225,GM_inst k_Hand B.hand.1 B.hand.2.1 rfl (by kernel_rfl!),c_Hand_letter.1,?_⟩
 with_reducible refine Ec (E_dict0 (En ?_))
 replace B:=B.up [AObj.dict [] none]
 replace hH:=up_at (more:=[AObj.dict [] none]) hH
 replace hE:=up_at (more:=[AObj.dict [] none]) hE
 have e9:(τ++[AObj.dict [] none])[τ.length]?=some (.dict (pgE []) none):=at_end
 generalize τ.length=kz at e9 ⊢
 generalize τ++[AObj.dict [] none]=υ at B hH hE e9 ⊢
 refine C_cm c_Hand_letter (hA.le (by decide)) ⟨fun _ _=>False,_,n,p,_,_,.inr rfl,B.hand.at_,by exact qAB hpl,rfl,.inr ⟨_,[],none,rfl,e9,.nil,by decide,?_⟩⟩
 clear e9
 refine X_ifs ?_
 with_reducible refine T_bool (Ts_or (T_cmp1 (E_nm (Lt (Lh (E_dict0 ?_))))))
 refine O_ne_dict (veq:=fun _ _=>true) (up_at (up_at hE)) at_end (fun _ h=>(nomatch h)) (by have:=hA.units;show _ < 9900;exact qAH this) ?_
 rw [show (!(([]:List (Key×V)).length == ([]:List (Key×V)).length && sameB (fun _ _=>true) [] []))=false from rfl]
 with_reducible refine T_b (iteF (Ts_or (T_cmp1 (E_nm (Lh (E_nm (Lt (Lt (Lt (Lt (Lt (Lt (Lt (Lh ?_))))))))))))))
 refine O_ne_dict (veq:=fun _ _=>true) at_prev (up_at (up_at B.known)) (perm_same _ R.all R.p.1).1 (by have:=hA.units;show _ < 9900;exact qAH this) ?_
 rw [(perm_same [] R.all R.p.1).2]
 with_reducible refine T_b (iN (Ts_or_nil (iteF (X_nil (sq_next (X_set (E_tuple (Ec (E_int (Ec (E_int (En (An (E_nm (Lh (E_str ?_))))))))))))))))
 refine P_dict (key:=.s _) at_prev (small_size (by have:=lacks_len (p:=[]) R.f.1;rw [pgE_length];exact qBL hpl this)) ?_
 rw [set_prev]
 generalize put (pgE (lacks [] p)) (.s "zz") (.tup [.int 1,.int 1])=z
 replace B:=(B.up [AObj.dict z none]).up [AObj.dict [] none]
 replace hH:=up_at (more:=[AObj.dict [] none]) (up_at (more:=[AObj.dict z none]) hH)
 clear hE
 generalize υ.length=ko
 generalize υ++[AObj.dict z none]++[AObj.dict [] none]=τ at B hH ⊢
 with_reducible refine X_let ?_
 refine E_mcallv ?_
 with_reducible refine E_nm (Lt (Lt (Lt (Lt (Lt (Lh ?_))))))
 refine ⟨.ref 225,GM_inst k_Hand B.hand.1 B.hand.2.1 rfl (by kernel_rfl!),c_Hand_letter.1,?_⟩
 with_reducible refine Ec ?_
 refine E_mcallv ?_
 with_reducible refine E_nm (Lt (Lt (Lt (Lt (Lt (Lh ?_))))))
 refine ⟨.ref 211,GM_inst k_Hand B.hand.1 B.hand.2.1 rfl (by kernel_rfl!),c_Hand_page.1,?_⟩
 with_reducible refine En ?_
 refine C_cm c_Hand_page (hA.le (by decide)) ⟨_,n,p,_,B.hand.at_,by exact qAN hpl,rfl,?_⟩
 with_reducible refine En ?_
 refine C_cm c_Hand_letter (hA.le (by decide)) ⟨fun _ _=>False,_,n,p,_,_,.inr rfl,(B.up [AObj.dict (pgE p) none]).hand.at_,by exact qAB hpl,rfl,.inr ⟨_,p,none,rfl,at_end,R.f,by exact qAB hpl,?_⟩⟩
 rw [lacks_self R.f.ok]
 with_reducible refine X_set (E_tuple (Ec (E_int (Ec (E_int (En (An (E_nm (Lh (E_str ?_))))))))))
 refine P_dict (key:=.s _) at_end (by decide) ?_
 rw [set_end]
 generalize put (pgE []) (.s "zz") (.tup [.int 1,.int 1])=z
 replace B:=(B.up [AObj.dict (pgE p) none]).up [AObj.dict z none]
 replace hH:=up_at (more:=[AObj.dict z none]) (up_at (more:=[AObj.dict (pgE p) none]) hH)
 generalize (τ++[AObj.dict (pgE p) none]).length=ko
 generalize τ++[AObj.dict (pgE p) none]++[AObj.dict z none]=τ at B hH ⊢
 refine X_ifs ?_
 with_reducible refine T_cmp1 ?_
 refine E_mcallv ?_
 with_reducible refine E_nm (Lt (Lt (Lt (Lt (Lt (Lt (Lh ?_)))))))
 refine ⟨.ref 225,GM_inst k_Hand B.hand.1 B.hand.2.1 rfl (by kernel_rfl!),c_Hand_letter.1,?_⟩
 with_reducible refine Ec ?_
 refine E_mcallv ?_
 with_reducible refine E_nm (Lt (Lt (Lt (Lt (Lt (Lt (Lh ?_)))))))
 refine ⟨.ref 211,GM_inst k_Hand B.hand.1 B.hand.2.1 rfl (by kernel_rfl!),c_Hand_page.1,?_⟩
 with_reducible refine En ?_
 refine C_cm c_Hand_page (hA.le (by decide)) ⟨_,n,p,_,B.hand.at_,by exact qAN hpl,rfl,?_⟩
 with_reducible refine En ?_
 refine C_cm c_Hand_letter (hA.le (by decide)) ⟨fun _ _=>False,_,n,p,_,_,.inr rfl,(B.up [AObj.dict (pgE p) none]).hand.at_,by exact qAB hpl,rfl,.inr ⟨_,p,none,rfl,at_end,R.f,by exact qAB hpl,?_⟩⟩
 rw [lacks_self R.f.ok]
 with_reducible refine E_dict0 ?_
 refine O_ne_dict (veq:=fun _ _=>true) (es:=[]) at_prev at_end (fun _ h=>(nomatch h)) (by have:=hA.units;show _ < 9900;exact qAH this) ?_
 rw [show (!(([]:List (Key×V)).length == ([]:List (Key×V)).length && sameB (fun _ _=>true) [] []))=false from rfl]
 replace B:=((B.up [AObj.dict (pgE p) none]).up [AObj.dict (pgE []) none]).up [AObj.dict [] none]
 replace hH:=up_at (more:=[AObj.dict [] none]) (up_at (more:=[AObj.dict (pgE []) none]) (up_at (more:=[AObj.dict (pgE p) none]) hH))
 generalize τ++[AObj.dict (pgE p) none]++[AObj.dict (pgE []) none]++[AObj.dict [] none]=τ at B hH ⊢
 with_reducible refine T_b (iteF (X_nil (sq_next (X_let (E_cf ‹_› (hA.le (by decide)) (Ec (E_nm (Lt (Lt (Lt (Lt (Lt (Lt (Lh (Ec (E_nm (Lt (Lt (Lt (Lh (En ?_)))))))))))))))))))))
 have e0:∀ s:List AObj,VeqOk s (fun _ _=>true) (pgE r) (pgE r):=fun s=>(perm_same s (.refl r) okr.1).1
 have e1:=(perm_same [] (.refl r) okr.1).2
 have hrl:(pgE r).length≤sizeLine:=small_size (by rw [pgE_length];exact qAn hr)
 refine ⟨_,n,p,_,_,B.hand.at_,hpl,rfl,.inr ⟨kh,r,_,rfl,hH,okr,hr,?_⟩⟩
 cases t with
 | false =>
  refine .inl ⟨hT,?_⟩
  refine X_ifs ?_
  with_reducible refine T_bool (Ts_or (T_cmp1 (E_nm (Lt (Lt (Lt (Lt (Lh (E_nm (Lt (Lt (Lt (Lt (Lt (Lt (Lt (Lt (Lh ?_))))))))))))))))))
  refine O_ne_dict (veq:=fun _ _=>true) hH B.page (e0 _) (by have:=hA.units;show _ < 9900;exact qAH this) ?_
  rw [e1]
  with_reducible refine T_b (iN (Ts_or (T_bool (Ts_and (T_not (T_value (E_nm (Lt (Lt (Lt (Lt (Lt (Lh (T_b (iY (Ts_and (T_cmp1 (E_nm (Lh (E_str (O_nes (T_b (iN (iteF (Ts_or_nil (iteF (X_nil (sq_next (X_do ?_)))))))))))))))))))))))))))))
  refine E_mcall (name:=Str.ofString "clear") (id:="dict.clear") ?_
  with_reducible refine E_nm (Lt (Lt (Lt (Lt (Lh ?_)))))
  refine ⟨GM_dict hH slot_dc type_dc,?_⟩
  with_reducible refine En ?_
  refine C_clear_dict hH hrl ?_
  replace B:=B.clear hH l1 l2 l3
  refine X_ifs ?_
  with_reducible refine T_not (T_value (E_nm (Lt (Lt (Lt (Lt (Lt (Lh (T_b (iY (X_ret (E_nm (Lt (Lt (Lt (Lt (Lt (Lt (Lt (Lt (Lt (Lh (sq_ret ?_)))))))))))))))))))))))
  exact R_all (q _ p D kd ⟨B.hand.at_,B.known,R,by exact qES hpl,ho⟩)
 | true =>
  refine .inr ⟨hT,fun σ' kd' y0 y1 y2=>?_⟩
  have l4:kd'≠kh:=Nat.ne_of_gt (Nat.lt_of_lt_of_le (at_len hH) y0)
  have hn0:=B.hand.2.1
  replace B:B8 n kd' kd kp (joins p r) D r σ':=⟨y1,y2 _ _ (ne_of B.known hn0 (fun e=>(nomatch e))) B.known,y2 _ _ (ne_of B.page hn0 (fun e=>(nomatch e))) B.page⟩
  replace hH:=y2 _ _ (ne_of hH hn0 (fun e=>(nomatch e))) hH
  clear y0 y1 y2 hn0
  refine X_ifs ?_
  with_reducible refine T_bool (Ts_or (T_cmp1 (E_nm (Lt (Lt (Lt (Lt (Lh (E_nm (Lt (Lt (Lt (Lt (Lt (Lt (Lt (Lt (Lh ?_))))))))))))))))))
  refine O_ne_dict (veq:=fun _ _=>true) hH B.page (e0 _) (by have:=hA.units;show _ < 9900;exact qAH this) ?_
  rw [e1]
  with_reducible refine T_b (iN (Ts_or (T_bool (Ts_and (T_not (T_value (E_nm (Lt (Lt (Lt (Lt (Lt (Lh (T_b (iN (iteF (Ts_or_nil (iteF (X_nil (sq_next (X_do ?_)))))))))))))))))))))
  refine E_mcall (name:=Str.ofString "clear") (id:="dict.clear") ?_
  with_reducible refine E_nm (Lt (Lt (Lt (Lt (Lh ?_)))))
  refine ⟨GM_dict hH slot_dc type_dc,?_⟩
  with_reducible refine En ?_
  refine C_clear_dict hH hrl ?_
  replace B:=B.clear hH l4 l2 l3
  generalize σ'.set kh (.dict [] none)=σ' at B
  refine X_ifs ?_
  with_reducible (refine T_not ?_;refine T_value ?_;refine E_nm ?_;refine Lt ?_;refine Lt ?_;refine Lt ?_;refine Lt ?_;refine Lt ?_;refine Lh ?_;refine T_b ?_;refine iN ?_;refine X_nil ?_;refine sq_next ?_)
  refine X_ifs ?_
  with_reducible (refine T_bool ?_;refine Ts_or ?_;refine T_not ?_;refine T_value ?_;refine E_cf ‹_› (hA.le (by decide)) ?_;refine Ec ?_;refine E_nm ?_;refine Lh ?_;refine En ?_;refine ⟨_,rfl,?_⟩;refine T_b ?_;refine iN ?_;refine Ts_or ?_;refine T_cmp1 ?_;refine E_nm ?_;refine Lh ?_;refine E_bi bl.len_ (.builtin _) ?_;refine Ec ?_;refine E_cf ‹_› (hA.le (by decide)) ?_;refine Ec ?_;refine E_nm ?_;refine Lt ?_;refine Lt ?_;refine Lt ?_;refine Lt ?_;refine Lt ?_;refine Lt ?_;refine Lt ?_;refine Lt ?_;refine Lt ?_;refine Lh ?_;refine Ec ?_;refine E_nm ?_;refine Lt ?_;refine Lt ?_;refine Lt ?_;refine Lt ?_;refine Lt ?_;refine Lt ?_;refine Lt ?_;refine Lt ?_;refine Lh ?_;refine En ?_)
  refine ⟨_,_,_,_,_,_,B.known,B.page,by exact qAT hr,rfl,?_⟩
  with_reducible refine En ?_
  refine C_len_dict at_end (by have:=List.length_filter_le (lackB D) r;rw [pgE_length];exact qA6 hr this) ?_
  with_reducible refine O_ne (T_b ?_)
  rw [decide_eq_true (show ((lacks p r).length:Int)=((pgE (r.filter (lackB D))).length:Int) from by rw [pgE_length,R.count okr])]
  replace B:=B.up [AObj.dict (pgE (r.filter (lackB D))) none]
  with_reducible refine iN (Ts_or_nil (iteF (X_nil (sq_next (X_ret (E_cf ‹_› (hA.le (by decide)) (Ec (E_nm (Lt (Lt (Lt (Lt (Lt (Lt (Lt (Lt (Lt (Lh (Ec (E_nm (Lt (Lt (Lt (Lt (Lt (Lt (Lt (Lt (Lh (En ?_))))))))))))))))))))))))))))))
  refine ⟨_,_,_,_,_,_,B.known,B.page,by exact qGZ hr hDl,rfl,?_⟩
  exact R_all (q _ (joins p r) (dueJ D r) _ ⟨(B.up _).hand.at_,at_end,R.join okr,Nat.le_trans (joins_len p r) (by exact qEk hr hpl),by rw [look_joins,reach_max hT,ho]⟩)
theorem good_law:Good (dr pw_uf050040_08 48) ["_law_script"] :=
 ⟨fun pm code doc vals h=>(by obtain ⟨a,rfl⟩:=len_1 h;rfl),by decide +kernel,by decide +kernel,by decide +kernel,rfl,rfl,rfl⟩
theorem law_ok (bl:Blt B mg mb) (S:Scr B scr nums) (k_Hand:Cls B 242 ["name","heard"] [("__init__",183),("grown",190),("up",197),("down",204),("page",211),("told",218),("letter",225),("trusts",232),("hear",239)])
  (c_cell_at:CF prog w B mg "_law_cell_at" 1 (fun xs σ Q X=>∃ k,xs=[.raw (.ref scr),.int k]∧0≤k∧Q (.int (cellAt nums k)) σ))
  (c_name_by:CF prog w B mg "_law_name_by" 2 P_name_by)
  (c_Hand:CF prog w B mg "Hand" 3 P_Hand)
  (c_Hand_up:CM prog w B 197 5 P_Hand_up)
  (c_Hand_down:CM prog w B 204 5 P_Hand_down)
  (c_page_for:CF prog w B mg "_law_page_for" 5 (fun xs σ Q X=>∃ (k:Int) (kd:Nat) (D:Pg) (n:Str) (a b:Int),(0≤k∧k < nums.length)∧σ[kd]?=some (.dict (pgE D) none)∧PgOk6 D∧D.length≤50∧isNameS n=true∧(0≤a∧a≤14∧0≤b∧b≤2)∧xs=[.raw (.ref scr),.int k,.ref kd,.str n,.tup [.int a,.int b]]∧∀ x more,PF8 (nums.getD k.toNat 0) (σ++more) x→Q x (σ++more)))
  (c_heard:CF prog w B mg "_law_heard" 7 P_heard)
  (c_lettered:CF prog w B mg "_law_lettered" 7 P_lettered)
  (c_behind:CF prog w B mg "_law_behind" 9 P_behind)
  (c_Hand_page:CM prog w B 211 1 P_Hand_page)
  (c_same:CF prog w B mg "_law_same" 3 P_same)
  (c_Hand_told:CM prog w B 218 3 P_Hand_told)
  (c_l_total:CF prog w B mg "_law_total" 1 P_l_total)
  {A:Around} (hA:AOk 20 A) (pm code doc:Value) (L a₀:Addr) (σ:List AObj) (hσ:σ=[]) :
  WX prog w B A (callEnvC (docDef (dr pw_uf050040_08 48).name (dr pw_uf050040_08 48).params (dr pw_uf050040_08 48).body (dr pw_uf050040_08 48).scope pm code doc) L a₀) (dr pw_uf050040_08 48).body [("_law_script",.raw (.ref scr))] σ (fun fl _ _=>retV fl=.bool true) (fun _ _ _ _=>False):=by
 change WX _ _ _ _ _ (_ :: _) _ _ _ _
 subst hσ
 with_reducible (refine X_let ?_;refine E_cf ‹_› (hA.le (by decide)) ?_;refine Ec ?_;refine E_cf ‹_› (hA.le (by decide)) ?_;refine Ec ?_;refine E_nm ?_;refine Lh ?_;refine Ec ?_;refine E_int ?_;refine En ?_;refine ⟨_,rfl,?_⟩;refine And.intro (by first | (exact qCo) | with_unfolding_all exact Nat.le_of_ble_eq_true rfl) ?_;refine En ?_;refine ⟨_,rfl,?_⟩;refine X_let ?_;refine E_cf ‹_› (hA.le (by decide)) ?_;refine Ec ?_;refine E_nm ?_;refine Lh ?_;refine En ?_)
 have hn:=nameBy_ok (cellAt nums 0)
 generalize nameBy (cellAt nums 0)=n at hn ⊢
 refine ⟨_,_,_,rfl,rfl,rfl,hn,⟨rfl,?_⟩⟩
 have I0:HandAt (([AObj.ns []]++[AObj.inst 242 0]).set 0 (.ns [("name",.str n),("heard",.ref 2)])++[.dict [] none]) 1 n (pg1 n 0 0) 0:=⟨2,rfl,rfl,rfl⟩
 change WX _ _ _ _ _ _ _ (([AObj.ns []]++[AObj.inst 242 0]).set 0 (.ns [("name",.str n),("heard",.ref 2)])++[.dict [] none]) _ _
 generalize ([AObj.ns []]++[AObj.inst 242 0]).set 0 (.ns [("name",.str n),("heard",.ref 2)])++[AObj.dict [] none]=τ at I0 ⊢
 with_reducible (refine X_let ?_;refine E_tuple ?_;refine Ec ?_;refine E_bin ?_;refine E_bin ?_;refine E_cf ‹_› (hA.le (by decide)) ?_;refine Ec ?_;refine E_nm ?_;refine Lt ?_;refine Lt ?_;refine Lh ?_;refine Ec ?_;refine E_int ?_;refine En ?_;refine ⟨_,rfl,?_⟩;refine And.intro (by first | (exact qF7) | with_unfolding_all exact Nat.le_of_ble_eq_true rfl) ?_;refine E_int ?_;refine O_mod ?_ (by exact qAc);refine E_int ?_;refine O_mul ?_ (by first | exact .inl (by omega) | exact .inr (by omega));refine Ec ?_;refine E_bin ?_;refine E_cf ‹_› (hA.le (by decide)) ?_;refine Ec ?_;refine E_nm ?_;refine Lt ?_;refine Lt ?_;refine Lh ?_;refine Ec ?_;refine E_int ?_;refine En ?_;refine ⟨_,rfl,?_⟩;refine And.intro (by first | (exact qCd) | with_unfolding_all exact Nat.le_of_ble_eq_true rfl) ?_;refine E_int ?_;refine O_mod ?_ (by exact qAc);refine En ?_;refine An ?_)
 have ha:0≤cellAt nums 1 % 3 * 7∧cellAt nums 1 % 3 * 7≤14:=by exact qFp
 have hb:0≤cellAt nums 2 % 3∧cellAt nums 2 % 3≤2:=by exact qE4
 generalize cellAt nums 1 % 3 * 7=a at ha ⊢
 generalize cellAt nums 2 % 3=b at hb ⊢
 refine X_ifj (ι:=List AObj) (fun τ=>HandAt τ 1 n (pg1 n a 0) 0) (fun _=>[("_law_share_here",.tup [.int a,.int b]),("_law_hand",.ref 1),("_law_name",.str n),("_law_script",.raw (.ref scr))]) (fun τ=>τ) ?_ ?_
 ·with_reducible refine T_cmp1 (E_sub (E_nm (Lh (E_int (S_t0 (E_int (O_gt (T_b ?_))))))))
  refine iteD (fun h=>?_) (fun h=>?_)
  ·with_reducible refine X_do ?_
   obtain ⟨_,h1,h2,_⟩:=id I0
   refine E_mcallv ?_
   with_reducible refine E_nm (Lt (Lh ?_))
   refine ⟨.ref 197,GM_inst k_Hand h1 h2 rfl (by kernel_rfl!),c_Hand_up.1,?_⟩
   with_reducible refine Ec (E_sub (E_nm (Lh (E_int (S_t0 (En ?_))))))
   refine C_cm c_Hand_up (hA.le (by decide)) ⟨_,n,_,_,a,I0,Nat.le_trans (pg1_len _ _ _) (by decide),by exact qCx ha h,rfl,fun σ' y1 y2=>?_⟩
   rw [joins_pg1 (by exact qD6 h),Int.zero_add,Int.add_zero] at y1
   with_reducible refine X_nil ?_
   exact J_next σ' y1 rfl (by with_reducible (refine Sub.c (Lh ⟨rfl,(Sub.c (Lt (Lh ⟨rfl,(Sub.c (Lt (Lt (Lh ⟨rfl,(Sub.c (Lt (Lt (Lt (Lh ⟨rfl,?_⟩)))))⟩))))⟩)))⟩);exact Sub.nil))
  ·with_reducible refine X_nil ?_
   obtain rfl:a=0:=by exact qEf ha h
   exact J_next τ I0 rfl (by with_reducible (refine Sub.c (Lh ⟨rfl,(Sub.c (Lt (Lh ⟨rfl,(Sub.c (Lt (Lt (Lh ⟨rfl,(Sub.c (Lt (Lt (Lt (Lh ⟨rfl,?_⟩)))))⟩))))⟩)))⟩);exact Sub.nil))
 clear I0 τ
 rintro τ I0
 try dsimp only
 refine X_ifj (ι:=List AObj) (fun τ=>HandAt τ 1 n (pg1 n a b) 0) (fun _=>[("_law_share_here",.tup [.int a,.int b]),("_law_hand",.ref 1),("_law_name",.str n),("_law_script",.raw (.ref scr))]) (fun τ=>τ) ?_ ?_
 ·with_reducible refine T_cmp1 (E_sub (E_nm (Lh (E_int (S_t1 (E_int (O_gt (T_b ?_))))))))
  refine iteD (fun h=>?_) (fun h=>?_)
  ·with_reducible refine X_do ?_
   obtain ⟨_,h1,h2,_⟩:=id I0
   refine E_mcallv ?_
   with_reducible refine E_nm (Lt (Lh ?_))
   refine ⟨.ref 204,GM_inst k_Hand h1 h2 rfl (by kernel_rfl!),c_Hand_down.1,?_⟩
   with_reducible refine Ec (E_sub (E_nm (Lh (E_int (S_t1 (En ?_))))))
   refine C_cm c_Hand_down (hA.le (by decide)) ⟨_,n,_,_,b,I0,Nat.le_trans (pg1_len _ _ _) (by decide),by exact qHo hb h,rfl,fun σ' y1 y2=>?_⟩
   rw [joins_pg1 (by exact qHP ha h),Int.zero_add,Int.add_zero] at y1
   with_reducible refine X_nil ?_
   exact J_next σ' y1 rfl (by with_reducible (refine Sub.c (Lh ⟨rfl,(Sub.c (Lt (Lh ⟨rfl,(Sub.c (Lt (Lt (Lh ⟨rfl,(Sub.c (Lt (Lt (Lt (Lh ⟨rfl,?_⟩)))))⟩))))⟩)))⟩);exact Sub.nil))
  ·with_reducible refine X_nil ?_
   obtain rfl:b=0:=by exact qHY hb h
   exact J_next τ I0 rfl (by with_reducible (refine Sub.c (Lh ⟨rfl,(Sub.c (Lt (Lh ⟨rfl,(Sub.c (Lt (Lt (Lh ⟨rfl,(Sub.c (Lt (Lt (Lt (Lh ⟨rfl,?_⟩)))))⟩))))⟩)))⟩);exact Sub.nil))
 clear I0 τ
 rintro τ I0
 try dsimp only
 with_reducible refine X_let (E_dict0 ?_)
 refine X_ifj (ι:=List AObj) (fun υ=>Inv8 n a b 50 τ.length υ (pg1 n a b) (pg1 n a b)) (fun _=>("_law_known",.ref τ.length) :: [("_law_share_here",.tup [.int a,.int b]),("_law_hand",.ref 1),("_law_name",.str n),("_law_script",.raw (.ref scr))]) (fun υ=>υ) ?_ ?_
 ·with_reducible refine T_cmp1 (E_nm (Lt (Lh (E_tuple (Ec (E_int (Ec (E_int (En (An ?_))))))))))
  refine O_ne_pair (by have:=hA.units;show _ < 9900;exact qF0 this) ?_
  have R0:=R8.pg1 hn (a:=a) (b:=b) (by exact qB1 ha hb)
  have hl:(pg1 n a b).length≤50:=Nat.le_trans (pg1_len _ _ _) (by decide)
  with_reducible refine T_b ?_
  refine iteDn (fun h=>?_) (fun h=>?_)
  ·with_reducible refine X_set (E_nm (Lt (Lh (E_nm (Lh (E_nm (Lt (Lt (Lt (Lh ?_))))))))))
   refine P_dict (key:=.s n) at_end (by decide) ?_
   rw [set_end]
   with_reducible refine X_nil ?_
   exact J_next _ ⟨I0.up,by unfold pg1;rw [if_neg h];exact at_end,R0,hl,pg1_look _ _ _⟩ rfl (by with_reducible (refine Sub.c (Lh ⟨rfl,(Sub.c (Lt (Lh ⟨rfl,(Sub.c (Lt (Lt (Lh ⟨rfl,(Sub.c (Lt (Lt (Lt (Lh ⟨rfl,(Sub.c (Lt (Lt (Lt (Lt (Lh ⟨rfl,?_⟩))))))⟩)))))⟩))))⟩)))⟩);exact Sub.nil))
  ·with_reducible refine X_nil ?_
   exact J_next _ ⟨I0.up,by unfold pg1;rw [if_pos h];exact at_end,R0,hl,pg1_look _ _ _⟩ rfl (by with_reducible (refine Sub.c (Lh ⟨rfl,(Sub.c (Lt (Lh ⟨rfl,(Sub.c (Lt (Lt (Lh ⟨rfl,(Sub.c (Lt (Lt (Lt (Lh ⟨rfl,(Sub.c (Lt (Lt (Lt (Lt (Lh ⟨rfl,?_⟩))))))⟩)))))⟩))))⟩)))⟩);exact Sub.nil))
 generalize τ.length=kd₀
 clear I0 τ
 rintro τ I0
 try dsimp only
 have hlen:=S.len
 refine X_fors ?_
 with_reducible refine E_bi bl.range_ (.type _) (Ec (E_int (Ec (E_bi bl.len_ (.builtin _) (Ec (E_nm (Lt (Lt (Lt (Lt (Lh (En (C_len_scr ‹_› (En (C_range2 ?_)))))))))))))))
 refine ForG.mk (ι:=Nat×List AObj) (fun _ x=>∃ p D,Inv8 n a b 50 x.1 x.2 p D) (fun _ x=>("_law_known",.ref x.1) :: [("_law_share_here",.tup [.int a,.int b]),("_law_hand",.ref 1),("_law_name",.str n),("_law_script",.raw (.ref scr))]) (fun _ x=>x.2) (It_range hA.handled (by exact qEV) (by exact qC6) (by exact qB5) (by exact qGX hlen)) (kd₀,τ) ⟨_,_,I0⟩ rfl trivial (by with_reducible (refine Sub.c ?_;refine Lh ?_;refine ⟨rfl,?_⟩;refine Sub.c ?_;refine Lt ?_;refine Lh ?_;refine ⟨rfl,?_⟩;refine Sub.c ?_;refine Lt ?_;refine Lt ?_;refine Lh ?_;refine ⟨rfl,?_⟩;refine Sub.c ?_;refine Lt ?_;refine Lt ?_;refine Lt ?_;refine Lh ?_;refine ⟨rfl,?_⟩;refine Sub.c ?_;refine Lt ?_;refine Lt ?_;refine Lt ?_;refine Lt ?_;refine Lh ?_;refine ⟨rfl,?_⟩;exact Sub.nil)) ?_ ?_
 ·clear I0 τ kd₀
  rintro i ⟨kd,τ⟩ hi ⟨p,D,I⟩ -
  dsimp only at I ⊢
  have hk:0≤3+(i:Int)∧3+(i:Int) < nums.length:=by exact qD1 hi
  have hDl:D.length≤50:=by rw [← I.rel.perm.length_eq];exact I.len
  with_reducible refine X_let (E_cf ‹_› (hA.le (by decide)) (Ec (E_nm (Lt (Lt (Lt (Lt (Lt (Lh (Ec (E_nm (Lh (Ec (E_nm (Lt (Lh (Ec (E_nm (Lt (Lt (Lt (Lt (Lh (Ec (E_nm (Lt (Lt (Lh (En ?_)))))))))))))))))))))))))))))
  refine ⟨_,_,D,n,a,b,hk,I.known,I.rel.p,hDl,hn,by exact qF5 ha hb,rfl,fun x more hx=>?_⟩
  replace I:=I.up more
  generalize τ++more=τ at I hx ⊢
  refine X_ifj (ι:=Nat×List AObj) (fun x=>∃ p D,Inv8 n a b 250 x.1 x.2 p D) (fun x=>("_law_known",.ref x.1) :: [("_law_share_here",.tup [.int a,.int b]),("_law_hand",.ref 1),("_law_name",.str n),("_law_script",.raw (.ref scr))]) (fun x=>x.2) ?_ ?_
  ·with_reducible refine T_cmp1 (E_bin (E_sub (E_nm (Lt (Lt (Lt (Lt (Lt (Lt (Lh (E_nm (Lt (Lh ?_)))))))))))))
   refine S_scr S hk.1 hk.2 ?_
   with_reducible refine E_int (O_mod (E_int (O_eq (T_b ?_))) (by exact qAA))
   refine iteD (fun h=>?_) (fun h=>?_)
   ·have hb:=(hx.resolve_right fun e=>e.1 h).2
    refine X_ifs ?_
    with_reducible refine T_bool (Ts_or (T_cmp1 (E_cf ‹_› (hA.le (by decide)) (Ec (E_nm (Lt (Lt (Lt (Lt (Lh (Ec (E_nm (Lh (En ?_))))))))))))))
    refine ⟨_,n,p,_,x,I.hand,I.len,rfl,.inl ⟨hb,?_⟩⟩
    with_reducible refine E_str (O_nes (T_b (iN (Ts_or (T_cmp1 (E_cf ‹_› (hA.le (by decide)) (Ec (E_nm (Lt (Lt (Lt (Lt (Lh (Ec (E_nm (Lh (En ?_)))))))))))))))))
    refine ⟨_,n,p,_,x,I.hand,I.len,hb,rfl,?_⟩
    with_reducible refine E_bool (O_isnot_bool (T_b (iN (Ts_or_nil (iteF (X_nil (sq_next (X_nil ?_))))))))
    exact J_next (kd,τ) ⟨p,D,I.hand,I.known,I.rel,Nat.le_trans I.len (by decide),I.own⟩ rfl (by with_reducible (refine Sub.c (Lt (Lt (Lh ⟨rfl,(Sub.c (Lt (Lt (Lt (Lh ⟨rfl,(Sub.c (Lt (Lt (Lt (Lt (Lh ⟨rfl,(Sub.c (Lt (Lt (Lt (Lt (Lt (Lh ⟨rfl,(Sub.c (Lt (Lt (Lt (Lt (Lt (Lt (Lh ⟨rfl,?_⟩))))))))⟩)))))))⟩))))))⟩)))))⟩)));exact Sub.nil))
   ·obtain ⟨kp,r,rfl,hp,okr,hr⟩:=(hx.resolve_left fun e=>h e.1).2
    with_reducible refine X_let (E_cf ‹_› (hA.le (by decide)) (Ec (E_nm (Lt (Lt (Lt (Lt (Lh (Ec (E_nm (Lh (Ec (E_nm (Lt (Lt (Lh (Ec (E_nm (Lt (Lt (Lt (Lt (Lt (Lh (Ec (E_nm (Lt (Lt (Lt (Lh (En ?_)))))))))))))))))))))))))))))))
    refine ⟨n,a,b,kp,r,kd,p,D,I,hp,okr,hr,rfl,fun σ' p' D' kd' I'=>?_⟩
    with_reducible refine X_nil ?_
    exact J_next (kd',σ') ⟨p',D',I'⟩ rfl (by with_reducible (refine Sub.c (Lh ⟨rfl,(Sub.c (Lt (Lt (Lt (Lt (Lh ⟨rfl,(Sub.c (Lt (Lt (Lt (Lt (Lt (Lh ⟨rfl,(Sub.c (Lt (Lt (Lt (Lt (Lt (Lt (Lh ⟨rfl,(Sub.c (Lt (Lt (Lt (Lt (Lt (Lt (Lt (Lh ⟨rfl,?_⟩)))))))))⟩))))))))⟩)))))))⟩))))))⟩);exact Sub.nil))
  clear I hx hDl τ p D kd
  rintro ⟨kd,τ⟩ ⟨p,D,I⟩
  dsimp only at I ⊢
  have hpl:=I.len
  have hDl:D.length≤250:=by rw [← I.rel.perm.length_eq];exact I.len
  obtain ⟨kh,hh⟩:=id I.hand
  with_reducible refine X_let ?_
  refine E_mcallv ?_
  with_reducible refine E_nm (Lt (Lt (Lh ?_)))
  refine ⟨.ref 211,GM_inst k_Hand hh.1 hh.2.1 rfl (by kernel_rfl!),c_Hand_page.1,?_⟩
  with_reducible refine En ?_
  refine C_cm c_Hand_page (hA.le (by decide)) ⟨_,n,p,_,I.hand,by exact qAF hpl,rfl,?_⟩
  with_reducible refine X_do ?_
  refine E_mcall (name:=Str.ofString "clear") (id:="dict.clear") ?_
  with_reducible refine E_nm (Lh ?_)
  refine ⟨GM_dict at_end slot_dc type_dc,?_⟩
  with_reducible refine En ?_
  refine C_clear_dict at_end (small_size (by rw [pgE_length];exact qHm hpl)) ?_
  rw [set_end]
  replace I:=I.up [AObj.dict [] none]
  replace hh:=HandD.up [AObj.dict [] none] hh
  have hE:(τ++[AObj.dict [] none])[τ.length]?=some (.dict [] none):=at_end
  generalize τ.length=ke at hE ⊢
  generalize τ++[AObj.dict [] none]=τ at I hh hE ⊢
  refine X_ifs ?_
  with_reducible refine T_bool (Ts_or (T_cmp1 (E_nm (Lt (Lh (E_none ?_))))))
  refine O_is_ref_none ?_
  with_reducible refine T_b (iteF (Ts_or (T_not (T_value (E_cf ‹_› (hA.le (by decide)) (Ec ?_))))))
  refine E_mcallv ?_
  with_reducible refine E_nm (Lt (Lt (Lt (Lh ?_))))
  refine ⟨.ref 211,GM_inst k_Hand hh.1 hh.2.1 rfl (by kernel_rfl!),c_Hand_page.1,?_⟩
  with_reducible refine En ?_
  refine C_cm c_Hand_page (hA.le (by decide)) ⟨_,n,p,_,I.hand,by exact qAF hpl,rfl,?_⟩
  replace I:=I.up [AObj.dict (pgE p) none]
  replace hh:=HandD.up [AObj.dict (pgE p) none] hh
  with_reducible refine Ec (E_nm (Lt (Lh (En ?_))))
  refine ⟨_,_,_,_,_,_,at_end,I.known,I.rel.same (by exact qAF hDl),rfl,?_⟩
  with_reducible refine T_b (iN (Ts_or (T_cmp1 (E_nm (Lh (E_dict0 ?_))))))
  refine O_ne_dict (veq:=fun _ _=>true) (up_at (up_at hE)) at_end (fun _ h=>(nomatch h)) (by have:=hA.units;show _ < 9900;exact qDx this) ?_
  rw [show (!(([]:List (Key×V)).length == ([]:List (Key×V)).length && sameB (fun _ _=>true) [] []))=false from rfl]
  replace I:=I.up [AObj.dict [] none]
  replace hh:=HandD.up [AObj.dict [] none] hh
  generalize τ++[AObj.dict (pgE p) none]++[AObj.dict [] none]=τ at I hh ⊢
  clear hE
  with_reducible refine T_b (iteF (Ts_or_nil (iteF (X_nil (sq_next ?_)))))
  refine X_ifs ?_
  with_reducible refine T_cmp1 ?_
  refine E_mcallv ?_
  with_reducible refine E_nm (Lt (Lt (Lt (Lh ?_))))
  refine ⟨.ref 218,GM_inst k_Hand hh.1 hh.2.1 rfl (by kernel_rfl!),c_Hand_told.1,?_⟩
  with_reducible refine En ?_
  refine C_cm c_Hand_told (hA.le (by decide)) ⟨_,n,p,_,I.hand,by exact qAF hpl,rfl,?_⟩
  with_reducible refine E_cf ‹_› (hA.le (by decide)) (Ec (E_nm (Lt (Lh (En ?_)))))
  refine ⟨_,_,_,I.known,by exact qAF hDl,rfl,?_⟩
  with_reducible refine O_ne (T_b ?_)
  rw [decide_eq_true I.rel.sum]
  with_reducible refine iN (X_nil (sq_next ?_))
  refine X_ifs ?_
  with_reducible refine T_cmp1 (E_bi bl.len_ (.builtin _) (Ec (E_nm (Lt (Lh (En ?_))))))
  refine C_len_dict I.known (by rw [pgE_length];exact qCF hDl) ?_
  rw [pgE_length]
  with_reducible refine E_int (O_gt (T_b ?_))
  refine iteD (fun h=>?_) (fun h=>?_)
  ·with_reducible refine X_ret (E_bool (sq_ret (TJ_ret (sq_ret ?_))))
   first | rfl | exact R_all rfl
  ·with_reducible refine X_nil (sq_next (X_nil ?_))
   exact TJ_next (kd,τ) ⟨p,D,I.hand,I.known,I.rel,by rw [I.rel.perm.length_eq];exact qGT h,I.own⟩ rfl trivial (by with_reducible (refine Sub.c (Lt (Lh ⟨rfl,(Sub.c (Lt (Lt (Lh ⟨rfl,(Sub.c (Lt (Lt (Lt (Lh ⟨rfl,(Sub.c (Lt (Lt (Lt (Lt (Lh ⟨rfl,(Sub.c (Lt (Lt (Lt (Lt (Lt (Lh ⟨rfl,?_⟩)))))))⟩))))))⟩)))))⟩))))⟩));exact Sub.nil))
 rintro ⟨kd,τ⟩ _ -
 with_reducible refine X_ret (E_bool ?_)
 first | rfl | exact R_all rfl
end
end Mine
open PySem PySem.W PyProof.Rows PySem.Challenge
open Mine
set_option maxRecDepth 100000 in
set_option maxHeartbeats 8000000 in
theorem PySem.Challenge.cw_uf050040_08_holds : PySem.Challenge.rw_uf050040_08.Holds := by
 w_on
 refine holds_law saidL fun said=>?_
 refine holds_open (q:=viewL) (loose:=[]) (Xt:=fun s=>xlAt viewL [] s && recOk (RowW.records (OpenRow.toRowW PySem.Challenge.rw_uf050040_08.row)) s) (XP:=XL viewL []) (Yf:=Hook.obs hookL) (Ya:=Hook.val hookL) (YP:=Hook.says hookL) (N:=6430) leftL (Hook.of hookL) (Hook.keeps hookL) (fun s e=>xl_of s (Bool.and_eq_true_iff.mp e).1) XL.keeps (by rfl) (by rfl) (by rfl) (fun s e=>recFacts_of (Bool.and_eq_true_iff.mp e).2) (by rfl) (by first | assumption | decide +kernel) (by decide +kernel) ⟨rfl,rfl,rfl,rfl,rfl,by decide +kernel⟩ ?hw ?hc
 (case hw=>w_witness2)
 w_strict (
 intro w s₀ s₁ mg mb G Y fa o pm cd doc dV kV ho hd hcd hD hmg hg args vals as hpre hlay hrd hwl hlo
 refine Ground.open G ?_
 intro T B D TE TW
 try (refine guard_noD D (by decide +kernel) ?_;clear D)
 wrow_args hpre hlay hrd hwl hlo
 all_goals (first | refine enter_call ?_ | refine enter_callW ?_)
 clear hD hd hcd
 have bl:Blt s₁ mg mb:=blt_of T (by decide +kernel)
 have gl:Gl s₁ mg mb:=⟨T.g,T.b,T.nolimit⟩
 rename_i hL _ _ _ hI _ hn _
 have S:=Scr.mk ⟨_,hL,by simpa using hI⟩ (by omega)
 have g_L:GC s₁ mg "LETTERS" (.str letters):=gc_str T (by kernel_rfl!)
 have g_G:GC s₁ mg "GREATEST" (.int 1000000000):=gc_int T (by kernel_rfl!)
 have g_M:GC s₁ mg "MOST_NAMES" (.int 200):=gc_int T (by kernel_rfl!)
 have v_bi:Bi s₁ mg mb "ValueError" (.type "ValueError"):=bi_of T (by kernel_rfl!) (by decide +kernel) (by decide +kernel)
 have f_is_name:=has_of T (dr Challenge.pw_uf050040_08 10) (i:=0) (by kernel_rfl)
 have f_is_amount:=has_of T (dr Challenge.pw_uf050040_08 11) (i:=1) (by kernel_rfl)
 have f_greater:=has_of T (dr Challenge.pw_uf050040_08 13) (i:=2) (by kernel_rfl)
 have f_reaches:=has_of T (dr Challenge.pw_uf050040_08 14) (i:=3) (by kernel_rfl)
 have f_net:=has_of T (dr Challenge.pw_uf050040_08 15) (i:=4) (by kernel_rfl)
 have f_is_part:=has_of T (dr Challenge.pw_uf050040_08 18) (i:=5) (by kernel_rfl)
 have f_is_share:=has_of T (dr Challenge.pw_uf050040_08 19) (i:=6) (by kernel_rfl)
 have f_is_page:=has_of T (dr Challenge.pw_uf050040_08 20) (i:=7) (by kernel_rfl)
 have f_share_of:=has_of T (dr Challenge.pw_uf050040_08 21) (i:=8) (by kernel_rfl)
 have f_joined:=has_of T (dr Challenge.pw_uf050040_08 22) (i:=9) (by kernel_rfl)
 have f_lacking:=has_of T (dr Challenge.pw_uf050040_08 23) (i:=10) (by kernel_rfl)
 have f_total:=has_of T (dr Challenge.pw_uf050040_08 24) (i:=11) (by kernel_rfl)
 have f_cell_at:=has_of T (dr Challenge.pw_uf050040_08 28) (i:=12) (by kernel_rfl)
 have f_whole:=has_of T (dr Challenge.pw_uf050040_08 29) (i:=13) (by kernel_rfl)
 have f_number_by:=has_of T (dr Challenge.pw_uf050040_08 30) (i:=14) (by kernel_rfl)
 have f_share:=has_of T (dr Challenge.pw_uf050040_08 31) (i:=15) (by kernel_rfl)
 have f_name_by:=has_of T (dr Challenge.pw_uf050040_08 32) (i:=16) (by kernel_rfl)
 have f_mixed:=has_of T (dr Challenge.pw_uf050040_08 33) (i:=17) (by kernel_rfl)
 have f_page_by:=has_of T (dr Challenge.pw_uf050040_08 34) (i:=18) (by kernel_rfl)
 have f_near_by:=has_of T (dr Challenge.pw_uf050040_08 35) (i:=19) (by kernel_rfl)
 have f_same:=has_of T (dr Challenge.pw_uf050040_08 36) (i:=20) (by kernel_rfl)
 have f_l_joined:=has_of T (dr Challenge.pw_uf050040_08 37) (i:=21) (by kernel_rfl)
 have f_l_total:=has_of T (dr Challenge.pw_uf050040_08 38) (i:=22) (by kernel_rfl)
 have f_truth:=has_of T (dr Challenge.pw_uf050040_08 39) (i:=23) (by kernel_rfl)
 have f_kind:=has_of T (dr Challenge.pw_uf050040_08 40) (i:=24) (by kernel_rfl)
 have f_l_lacking:=has_of T (dr Challenge.pw_uf050040_08 41) (i:=25) (by kernel_rfl)
 have f_odd_share:=has_of T (dr Challenge.pw_uf050040_08 42) (i:=26) (by kernel_rfl)
 have f_odd_by:=has_of T (dr Challenge.pw_uf050040_08 43) (i:=27) (by kernel_rfl)
 have f_heard:=has_of T (dr Challenge.pw_uf050040_08 44) (i:=28) (by kernel_rfl)
 have f_lettered:=has_of T (dr Challenge.pw_uf050040_08 45) (i:=29) (by kernel_rfl)
 have f_page_for:=has_of T (dr Challenge.pw_uf050040_08 46) (i:=30) (by kernel_rfl)
 have f_behind:=has_of T (dr Challenge.pw_uf050040_08 47) (i:=31) (by kernel_rfl)
 have f_law:=has_of T (dr Challenge.pw_uf050040_08 48) (i:=32) (by kernel_rfl)
 have KX:=kIn_of Y
 have e_GossipError:Err s₁ (KF w.params) 24 vErr:=Err.of KX (by kernel_rfl)
 have g_GossipError:GC s₁ mg "GossipError" (.raw (.ref 24)):=⟨T.g,_,mg_of KX T.g (by kernel_rfl),.raw_ _⟩
 have e_NoName:Err s₁ (KF w.params) 37 (.ref 24 :: vErr):=Err.of KX (by kernel_rfl)
 have g_NoName:GC s₁ mg "NoName" (.raw (.ref 37)):=⟨T.g,_,mg_of KX T.g (by kernel_rfl),.raw_ _⟩
 have e_NoAmount:Err s₁ (KF w.params) 49 (.ref 24 :: vErr):=Err.of KX (by kernel_rfl)
 have g_NoAmount:GC s₁ mg "NoAmount" (.raw (.ref 49)):=⟨T.g,_,mg_of KX T.g (by kernel_rfl),.raw_ _⟩
 have e_NoPage:Err s₁ (KF w.params) 61 (.ref 24 :: vErr):=Err.of KX (by kernel_rfl)
 have g_NoPage:GC s₁ mg "NoPage" (.raw (.ref 61)):=⟨T.g,_,mg_of KX T.g (by kernel_rfl),.raw_ _⟩
 have e_Forged:Err s₁ (KF w.params) 73 (.ref 24 :: vErr):=Err.of KX (by kernel_rfl)
 have g_Forged:GC s₁ mg "Forged" (.raw (.ref 73)):=⟨T.g,_,mg_of KX T.g (by kernel_rfl),.raw_ _⟩
 have e_NoNote:Err s₁ (KF w.params) 85 (.ref 24 :: vErr):=Err.of KX (by kernel_rfl)
 have g_NoNote:GC s₁ mg "NoNote" (.raw (.ref 85)):=⟨T.g,_,mg_of KX T.g (by kernel_rfl),.raw_ _⟩
 have k_Hand:Cls s₁ 242 ["name","heard"] [("__init__",183),("grown",190),("up",197),("down",204),("page",211),("told",218),("letter",225),("trusts",232),("hear",239)]:=⟨_,KX,by kernel_rfl⟩
 have m_Hand:mg "Hand" = some (.ref 242):=mg_of KX T.g (by kernel_rfl)
 have c_is_name:=cf_is_name (prog:=rw_uf050040_08.row.prog) (w:=w) gl bl S f_is_name g_L
 have c_is_amount:=cf_is_amount (prog:=rw_uf050040_08.row.prog) (w:=w) gl bl S f_is_amount g_G
 have c_is_part:=cf_is_part (prog:=rw_uf050040_08.row.prog) (w:=w) gl bl S f_is_part
 have c_is_share:=cf_is_share (prog:=rw_uf050040_08.row.prog) (w:=w) gl bl S f_is_share  c_is_part
 have c_is_page:=cf_is_page (prog:=rw_uf050040_08.row.prog) (w:=w) gl bl S f_is_page g_M c_is_name c_is_share
 have c_greater:=cf_greater (prog:=rw_uf050040_08.row.prog) (w:=w) gl bl S f_greater
 have c_reaches:=cf_reaches (prog:=rw_uf050040_08.row.prog) (w:=w) gl bl S f_reaches
 have c_net:=cf_net (prog:=rw_uf050040_08.row.prog) (w:=w) gl bl S f_net
 have c_share_of:=cf_share_of (prog:=rw_uf050040_08.row.prog) (w:=w) gl bl S f_share_of
 have c_joined:=cf_joined (prog:=rw_uf050040_08.row.prog) (w:=w) gl bl S f_joined  c_share_of c_greater
 have c_lacking:=cf_lacking (prog:=rw_uf050040_08.row.prog) (w:=w) gl bl S f_lacking  c_share_of c_reaches
 have c_total:=cf_total (prog:=rw_uf050040_08.row.prog) (w:=w) gl bl S f_total  c_net
 have f_Hand_init:HasM s₁ 183 (dm Challenge.pw_uf050040_08 26 0):=hasM_of (pm:=Value.str (Str.ofString "gossipcount.hands") 393) (c:=182) (doc:=Value.none) (q:="Hand.__init__") KX (by kernel_rfl) (by kernel_rfl)
 have c_Hand_init:=cf_Hand_init (prog:=rw_uf050040_08.row.prog) (w:=w) gl bl S f_Hand_init k_Hand c_is_name
 have c_Hand:=CF_make (x:="Hand") gl k_Hand m_Hand rfl c_Hand_init
 have f_Hand_grown:HasM s₁ 190 (dm Challenge.pw_uf050040_08 26 1):=hasM_of (pm:=Value.str (Str.ofString "gossipcount.hands") 393) (c:=189) (doc:=Value.none) (q:="Hand.grown") KX (by kernel_rfl) (by kernel_rfl)
 have c_Hand_grown:=cf_Hand_grown (prog:=rw_uf050040_08.row.prog) (w:=w) gl bl S f_Hand_grown k_Hand c_share_of c_joined c_total
 have f_Hand_up:HasM s₁ 197 (dm Challenge.pw_uf050040_08 26 2):=hasM_of (pm:=Value.str (Str.ofString "gossipcount.hands") 393) (c:=196) (doc:=Value.none) (q:="Hand.up") KX (by kernel_rfl) (by kernel_rfl)
 have c_Hand_up:=cf_Hand_up (prog:=rw_uf050040_08.row.prog) (w:=w) gl bl S f_Hand_up k_Hand c_is_amount c_Hand_grown
 have f_Hand_down:HasM s₁ 204 (dm Challenge.pw_uf050040_08 26 3):=hasM_of (pm:=Value.str (Str.ofString "gossipcount.hands") 393) (c:=203) (doc:=Value.none) (q:="Hand.down") KX (by kernel_rfl) (by kernel_rfl)
 have c_Hand_down:=cf_Hand_down (prog:=rw_uf050040_08.row.prog) (w:=w) gl bl S f_Hand_down k_Hand c_is_amount c_Hand_grown
 have f_Hand_page:HasM s₁ 211 (dm Challenge.pw_uf050040_08 26 4):=hasM_of (pm:=Value.str (Str.ofString "gossipcount.hands") 393) (c:=210) (doc:=Value.none) (q:="Hand.page") KX (by kernel_rfl) (by kernel_rfl)
 have c_Hand_page:=cf_Hand_page (prog:=rw_uf050040_08.row.prog) (w:=w) gl bl S f_Hand_page k_Hand
 have f_Hand_told:HasM s₁ 218 (dm Challenge.pw_uf050040_08 26 5):=hasM_of (pm:=Value.str (Str.ofString "gossipcount.hands") 393) (c:=217) (doc:=Value.none) (q:="Hand.told") KX (by kernel_rfl) (by kernel_rfl)
 have c_Hand_told:=cf_Hand_told (prog:=rw_uf050040_08.row.prog) (w:=w) gl bl S f_Hand_told k_Hand c_total
 have f_Hand_trusts:HasM s₁ 232 (dm Challenge.pw_uf050040_08 26 7):=hasM_of (pm:=Value.str (Str.ofString "gossipcount.hands") 393) (c:=231) (doc:=Value.none) (q:="Hand.trusts") KX (by kernel_rfl) (by kernel_rfl)
 have c_Hand_trusts:=cf_Hand_trusts (prog:=rw_uf050040_08.row.prog) (w:=w) gl bl S f_Hand_trusts k_Hand c_reaches c_share_of
 have f_Hand_letter:HasM s₁ 225 (dm Challenge.pw_uf050040_08 26 6):=hasM_of (pm:=Value.str (Str.ofString "gossipcount.hands") 393) (c:=224) (doc:=Value.none) (q:="Hand.letter") KX (by kernel_rfl) (by kernel_rfl)
 have c_Hand_letter:=cf_Hand_letter (prog:=rw_uf050040_08.row.prog) (w:=w) gl bl S f_Hand_letter k_Hand e_NoPage g_NoPage c_is_page c_lacking
 have f_Hand_hear:HasM s₁ 239 (dm Challenge.pw_uf050040_08 26 8):=hasM_of (pm:=Value.str (Str.ofString "gossipcount.hands") 393) (c:=238) (doc:=Value.none) (q:="Hand.hear") KX (by kernel_rfl) (by kernel_rfl)
 have c_Hand_hear:=cf_Hand_hear (prog:=rw_uf050040_08.row.prog) (w:=w) gl bl S f_Hand_hear k_Hand e_NoPage g_NoPage e_Forged g_Forged c_is_page c_Hand_trusts c_lacking c_joined
 have c_cell_at:=cf_cell_at (prog:=rw_uf050040_08.row.prog) (w:=w) gl bl S f_cell_at
 have c_whole:=cf_whole (prog:=rw_uf050040_08.row.prog) (w:=w) gl bl S f_whole
 have c_number_by:=cf_number_by (prog:=rw_uf050040_08.row.prog) (w:=w) gl bl S f_number_by
 have c_share:=cf_share (prog:=rw_uf050040_08.row.prog) (w:=w) gl bl S f_share  c_whole
 have c_name_by:=cf_name_by (prog:=rw_uf050040_08.row.prog) (w:=w) gl bl S f_name_by
 have c_mixed:=cf_mixed (prog:=rw_uf050040_08.row.prog) (w:=w) gl bl S f_mixed
 have c_page_by:=cf_page_by (prog:=rw_uf050040_08.row.prog) (w:=w) gl bl S f_page_by  c_number_by c_mixed c_name_by
 have c_near_by:=cf_near_by (prog:=rw_uf050040_08.row.prog) (w:=w) gl bl S f_near_by  c_mixed
 have c_same:=cf_same (prog:=rw_uf050040_08.row.prog) (w:=w) gl bl S f_same  c_share
 have c_l_joined:=cf_l_joined (prog:=rw_uf050040_08.row.prog) (w:=w) gl bl S f_l_joined
 have c_l_total:=cf_l_total (prog:=rw_uf050040_08.row.prog) (w:=w) gl bl S f_l_total
 have c_truth:=cf_truth (prog:=rw_uf050040_08.row.prog) (w:=w) gl bl S f_truth
 have c_kind:=cf_kind (prog:=rw_uf050040_08.row.prog) (w:=w) gl bl S f_kind e_GossipError g_GossipError e_NoName g_NoName e_NoAmount g_NoAmount e_NoPage g_NoPage e_Forged g_Forged e_NoNote g_NoNote v_bi
 have c_l_lacking:=cf_l_lacking (prog:=rw_uf050040_08.row.prog) (w:=w) gl bl S f_l_lacking
 have c_odd_share:=cf_odd_share (prog:=rw_uf050040_08.row.prog) (w:=w) gl bl S f_odd_share
 have c_odd_by:=cf_odd_by (prog:=rw_uf050040_08.row.prog) (w:=w) gl bl S f_odd_by  c_name_by c_odd_share
 have c_heard:=cf_heard (prog:=rw_uf050040_08.row.prog) (w:=w) gl bl S f_heard k_Hand e_GossipError g_GossipError e_NoName g_NoName e_NoAmount g_NoAmount e_NoPage g_NoPage e_Forged g_Forged e_NoNote g_NoNote c_Hand_hear c_kind
 have c_lettered:=cf_lettered (prog:=rw_uf050040_08.row.prog) (w:=w) gl bl S f_lettered k_Hand e_GossipError g_GossipError e_NoName g_NoName e_NoAmount g_NoAmount e_NoPage g_NoPage e_Forged g_Forged e_NoNote g_NoNote c_Hand_letter c_kind
 have c_page_for:=cf_page_for (prog:=rw_uf050040_08.row.prog) (w:=w) gl bl S f_page_for  c_page_by c_odd_by c_near_by
 have c_behind:=cf_behind (prog:=rw_uf050040_08.row.prog) (w:=w) gl bl S f_behind k_Hand c_Hand_letter c_Hand_trusts c_Hand_page c_truth c_same c_l_lacking c_heard c_whole c_l_joined
 refine law_end T f_law hmg good_law hg (fun _=>rfl) (fun _=>.bool _) (by first | rfl | kernel_rfl) fun A pm code doc L a hA=>?_
 exact law_ok bl S k_Hand c_cell_at c_name_by c_Hand c_Hand_up c_Hand_down c_page_for c_heard c_lettered c_behind c_Hand_page c_same c_Hand_told c_l_total (hA.le (by decide)) pm code doc L a _ rfl)
