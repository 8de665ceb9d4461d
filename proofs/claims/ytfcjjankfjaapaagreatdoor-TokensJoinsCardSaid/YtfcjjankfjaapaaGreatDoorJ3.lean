/-
  The statement TokensJoinsCardSaid, proved; part 4 of 8 of its proof.
  The hints of each function, and what reads a struct. Printed by a program.
  Library contracts at this program, laid by the shelf's tool; a part of them.
  The library's functions that are taken by contract: strings and numbers.
  What the rows' listed variables give in a world that begins as they say.
  A world in which the listed variables hold what the rows say: the witness of all laws of this chapter.
  A law's arguments of plain data as values of the abstract interpreter; and that they read behind a call that turns nothing as they did.
  Small facts for the laws of the tokens' functions.
-/
import Derived.Test.YtfcjjankfjaapaaGreatDoorJ2
import Derived.Test.YtfcjjankfjaapaaGreatDoorProg
import Derived.Shelf.Strings.Builder1
import Derived.Shelf.Strings.Builder2
import Derived.Shelf.Strings.OnBuilder
import Derived.Shelf.Strings.Trim
import Derived.Shelf.Small.Utf8
import Derived.Shelf.Small.Strs
import Derived.Shelf.Strings.BuilderF
import Derived.Shelf.Strings.BuilderK
import Derived.Shelf.Strings.BuilderRune
import Derived.Shelf.Utf8.RuneCount
import Derived.Shelf.Strings.Builder2Cap
import Derived.Shelf.Strconv.Atoi
import Derived.Shelf.Strconv.Itoa0
import Derived.Shelf.Strconv.Itoa1
import Derived.Shelf.LaysM
import Derived.Shelf.Strconv.Itoa2
import Derived.Shelf.Strconv.Itoa3
import Derived.Shelf.Strconv.AtoiErrFast
import Derived.Shelf.Strconv.ParseIntEmpty
import Derived.Shelf.Strconv.AtoiFail
import Derived.Shelf.Strconv.Clone
import Derived.Shelf.Strconv.SyntaxError
import Derived.Shelf.LaysC
import Derived.Shelf.Strconv.ToError
import Derived.Shelf.Strconv.Lower
import Derived.Shelf.Strconv.ParseUint10
import Derived.Shelf.Strconv.ParseUint10Empty
import Derived.Shelf.Strconv.ParseUint10Any
import Derived.Shelf.Strconv.ParseInt10
import Derived.Shelf.Strconv.AtoiLong
import Derived.Shelf.Strconv.AtoiInnerAll
import Derived.Shelf.Strconv.RangeError
import Derived.Shelf.Strconv.ToErrorRange
import Derived.Shelf.Strconv.AtoiAll
import Derived.Shelf.Strconv.ErrVarAll
import Derived.Shelf.Strings.Search1
import Derived.Shelf.Strings.Search2
import Derived.Shelf.Strings.Search3
import Derived.Shelf.Strings.Cut
import Derived.Shelf.Strings.Count
import Derived.Shelf.Strings.Shaped
import Derived.Shelf.GgClosure.StringsIndexFunc
import Derived.Ground.GgwProg
import Derived.Shelf.GgClosure.StringsIndexFuncTop
import Derived.Shelf.Strings.Prefix
import Derived.Shelf.Strings.Split
import Derived.Shelf.Strings.Replace
import Derived.Shelf.Strings.SplitShaped
import Derived.Shelf.Unicode.Latin
import Derived.Shelf.Unicode.Decode
import Derived.Shelf.Strings.Runes
import Derived.Shelf.Strings.RuneCount
import Derived.Shelf.Strings.IndexAny
import Derived.Shelf.Strings.AsciiSet
import Derived.Shelf.Strings.IndexAnyAll
import Derived.Shelf.Unicode.DecodeSlow
import Derived.Shelf.Unicode.DecodeAny
import Derived.Shelf.Unicode.DecodeLast
import Derived.Shelf.Unicode.CaseLookup
import Derived.Shelf.Unicode.CaseConvert
import Derived.Shelf.Unicode.CaseTo
import Derived.Shelf.Unicode.CaseLaid
import Derived.Shelf.Strings.MapAny
import Derived.Shelf.Strings.CaseAny
import Derived.Shelf.Strings.FuncGrows
import Derived.Shelf.Strings.BuilderCap
import Derived.Lib.CaseU
import Derived.Lib.SmallJoins
import Derived.Lib.SplitLaws
import Derived.Lib.DecodeN
import Derived.Test.YtfcjjankfjaapaaGreatDoorRows
import Derived.PinnedBridge
import Derived.Lib.LaidU8T
import Derived.Stop.LaidErr
import Derived.Shelf.Vars
import Derived.ProofKit
import Derived.Great.CaseRows
import Derived.Lib.LaidIn
import Derived.Deep.DeepHandedRow
import Derived.Deep.DeepWitnessRowRef
import Derived.OpenShut
import Derived.Deep.Slices
import Derived.ChangeStays
import Derived.ChangeBook
set_option linter.all false
set_option linter.unusedSectionVars false
set_option linter.unusedVariables false
set_option maxRecDepth 1000000
namespace Go.Abs
open Go Go.Proofs
def H3:Hints:={cuts:=[(3,[(0,0),(3,0)],[(4,0)]),(5,[(0,0),(3,0)],[(4,0)])],res:=[(4,0)]}
def H4:Hints:={ops:=[((5,6),{take:=[17]}),((6,6),{take:=[23]}),((7,9),{take:=[3]}),((7,10),{take:=[6]}),((7,11),{take:=[35,36]})],cuts:=[(3,[(0,0)],[(2,0)]),(5,[(0,0)],[(2,0)])],res:=[(2,0)]}
def H5:Hints:={ops:=[((3,15),{take:=[34]}),((5,1),{take:=[46]}),((19,3),{take:=[124]}),((29,6),{take:=[176]}),((30,6),{take:=[182]}),((31,4),{take:=[12]}),((31,5),{take:=[15]}),((31,6),{take:=[189,190]})],live:=[(10,[(0,2),(1,2),(7,0),(8,0),(9,0)],[(7,0),(8,0)]),(17,[(0,2),(1,2),(7,0),(8,0),(9,0),(10,0)],[(0,2),(1,2),(7,0),(8,0),(9,0)]),(23,[(7,0),(8,0),(11,0)],[(7,0),(8,0)])],cuts:=[(3,[(0,2),(1,2)],[(4,0)]),(5,[(0,2),(1,2)],[(4,0)]),(8,[(0,2),(1,2)],[(4,0)]),(15,[(0,2),(1,2),(7,0),(8,0),(9,0)],[(0,2),(1,2),(7,0),(8,0),(9,0)]),(16,[(0,2),(1,2),(7,0),(8,0),(9,0)],[(0,2),(1,2),(7,0),(8,0),(9,0)]),(21,[(0,2),(1,2),(7,0),(8,0),(9,0),(10,0)],[(0,2),(1,2),(7,0),(8,0),(9,0),(10,0)]),(29,[(7,0),(8,0)],[(4,0)]),(33,[(13,0),(14,0),(16,0)],[(4,0)])],res:=[(4,0)]}
def H6:Hints:={cuts:=[(3,[(0,0),(1,0),(5,0)],[(6,0)]),(5,[(0,0),(1,0),(5,0)],[(6,0)]),(10,[(1,0),(5,0),(9,0),(10,0)],[(6,0)]),(13,[(5,0),(9,0),(12,0)],[(6,0)]),(15,[(5,0),(9,0)],[(6,0)])],res:=[(6,0)]}
def H7:Hints:={ops:=[((5,6),{take:=[26]}),((7,0),{take:=[3]}),((10,1),{take:=[38]}),((19,1),{take:=[62]}),((19,2),{take:=[63]}),((20,6),{take:=[70]}),((21,1),{take:=[74]}),((21,2),{take:=[75]}),((22,11),{take:=[10]}),((22,13),{take:=[90,91]}),((26,6),{take:=[113]}),((27,3),{take:=[15]}),((27,4),{take:=[3]}),((27,5),{take:=[119,120]})],live:=[(14,[(3,2),(6,0),(7,0)],[(3,2),(6,0)])],cuts:=[(3,[(0,0)],[(2,0)]),(5,[(0,0)],[(2,0)]),(8,[(3,2),(4,0)],[(2,0)]),(10,[(3,2)],[(2,0)]),(12,[(3,2)],[(2,0)]),(18,[(3,2),(6,0),(7,0)],[(3,2),(6,0),(7,0)]),(24,[(3,2),(6,0)],[(2,0)]),(26,[(3,2),(6,0)],[(2,0)])],res:=[(2,0)]}
def H8:Hints:={ops:=[((5,6),{take:=[26]}),((7,7),{take:=[37]}),((8,11),{take:=[50,51]}),((18,6),{take:=[113]}),((19,12),{take:=[15]}),((19,13),{take:=[3]}),((19,14),{take:=[128,129]})],live:=[(13,[(3,2),(6,0),(8,2),(12,0)],[(3,2),(6,0)])],cuts:=[(3,[(0,0)],[(2,0)]),(5,[(0,0)],[(2,0)]),(10,[(3,2),(6,0),(8,2),(10,0)],[(2,0)]),(12,[(3,2),(6,0),(8,2)],[(2,0)])],res:=[(2,0)]}
def H9:Hints:={ops:=[((3,1),{take:=[17]}),((5,1),{take:=[21]}),((5,2),{take:=[22]}),((6,1),{take:=[27]}),((6,2),{take:=[28]}),((7,1),{take:=[33]}),((10,1),{take:=[61]}),((13,1),{take:=[73]}),((18,6),{take:=[94]}),((19,3),{take:=[12]}),((19,4),{take:=[0]}),((19,5),{take:=[100,101]})],cuts:=[(3,[(0,2)],[(2,0)]),(5,[(0,2)],[(2,0)]),(10,[(0,2),(3,0),(4,0),(5,0),(6,0)],[(2,0)]),(13,[(0,2),(3,0),(4,0)],[(2,0)]),(16,[(0,2),(3,0),(4,0),(11,0)],[(2,0)]),(18,[(0,2),(3,0)],[(2,0)])],res:=[(2,0)]}
def H10:Hints:={cuts:=[(3,[(0,0),(1,0),(2,0)],[(6,0)]),(5,[(0,0),(1,0),(2,0)],[(6,0)]),(11,[(1,0),(2,0),(9,0),(10,0),(11,0),(12,0)],[(6,0)]),(14,[(2,0),(11,0),(12,0)],[(6,0)]),(16,[(2,0),(11,0),(12,0)],[(6,0)]),(18,[(2,0),(11,0),(12,0)],[(6,0)])],res:=[(6,0)]}
def H11:Hints:={ops:=[((1,5),{take:=[15]}),((2,0),{take:=[1]}),((2,1),{take:=[19]}),((3,5),{take:=[25]}),((6,24),{take:=[6]})]}
def H12:Hints:={cuts:=[(5,[(1,0)],[]),(13,[(0,0),(1,0),(39,0)],[])],res:=[(4,0)]}
def H13:Hints:={ops:=[((7,6),{take:=[51]}),((8,8),{take:=[5]})],cuts:=[(3,[(0,0),(1,0)],[(4,0)]),(5,[(0,0),(1,0)],[(4,0)]),(7,[(0,0),(1,0)],[(4,0)])],res:=[(4,0)]}
def H14:Hints:={ops:=[((10,7),{take:=[31]}),((10,14),{take:=[38]})],cuts:=[(6,[(1,0),(12,0)],[]),(8,[(1,0)],[]),(10,[(1,0)],[])],res:=[(2,0)]}
def H15:Hints:={ops:=[((10,3),{take:=[30]}),((10,9),{take:=[36]})]}
def H16:Hints:={}
def H17:Hints:={ops:=[((1,5),{take:=[7]})]}
def H18:Hints:={ops:=[((12,0),{take:=[6]}),((12,4),{take:=[33]}),((12,7),{take:=[37]}),((15,1),{take:=[6]}),((15,3),{take:=[43]})],live:=[(6,[(0,0),(6,1),(7,0)],[(6,1)])],cuts:=[(4,[(0,0)],[(2,2),(3,0),(4,0)]),(9,[(0,0),(6,1),(7,0)],[(0,0),(6,1),(7,0)]),(12,[(0,0),(6,1),(8,0)],[(0,0),(6,1),(7,0)])],res:=[(2,2),(3,0),(4,0)]}
def H19:Hints:={live:=[(4,[(0,2),(1,2),(5,0)],[])],cuts:=[(3,[(0,2),(1,2)],[(4,0)])],res:=[(4,0)]}
def H20:Hints:={live:=[(4,[(0,2),(3,0)],[])],cuts:=[(3,[(0,2)],[(2,0)])],res:=[(2,0)]}
def H21:Hints:={live:=[(4,[(0,2),(4,0)],[])],cuts:=[(3,[(0,2)],[(2,0),(3,0)])],res:=[(2,0),(3,0)]}
def H22:Hints:={ops:=[((2,0),{take:=[0]})],live:=[(3,[(1,0),(5,0),(8,2),(9,0),(10,0)],[(5,0)])],res:=[(4,0)]}
def H23:Hints:={}
def H24:Hints:={ops:=[((1,5),{take:=[7]})]}
def H25:Hints:={cuts:=[(4,[(0,0),(2,0),(4,0)],[(2,0),(3,0)]),(6,[(0,0),(2,0)],[(2,0),(3,0)]),(11,[(0,0),(2,0),(6,0)],[(2,0),(3,0)]),(17,[(2,0),(6,0),(11,0),(12,0)],[(2,0),(3,0)])],res:=[(2,0),(3,0)]}
def H26:Hints:={cuts:=[(3,[(0,0),(3,0)],[(4,0),(5,0)]),(5,[(0,0),(3,0)],[(4,0),(5,0)]),(7,[(0,0),(3,0)],[(4,0),(5,0)]),(10,[(0,0),(3,0),(6,0)],[(4,0),(5,0)])],res:=[(4,0),(5,0)]}
def H27:Hints:={live:=[(10,[(0,0),(2,0),(5,0),(6,0),(7,0),(8,0)],[(2,0),(5,0),(6,0),(7,0)]),(19,[(2,0),(5,0),(6,0)],[(2,0),(5,0),(6,0)])],cuts:=[(4,[(0,0),(2,0),(4,0)],[(2,0),(3,0)]),(6,[(0,0),(2,0),(4,0)],[(2,0),(3,0)]),(8,[(0,0),(2,0)],[(2,0),(3,0)])],res:=[(2,0),(3,0)]}
def H28:Hints:={cuts:=[(3,[(0,0),(3,0)],[(4,0),(5,0)]),(6,[(0,0),(3,0),(6,0)],[(4,0),(5,0)]),(8,[(0,0),(3,0),(6,0)],[(4,0),(5,0)]),(12,[(7,0),(8,0)],[(4,0),(5,0)])],res:=[(4,0),(5,0)]}
def H29:Hints:={ops:=[((1,1),{take:=[10]}),((4,0),{cell:=true}),((8,9),{push:=true}),((9,0),{push:=true}),((10,2),{push:=true}),((12,0),{push:=true}),((14,0),{push:=true})],live:=[(6,[(0,2),(6,0),(17,2),(18,0),(19,0),(1000001,0)],[(6,0)])],cuts:=[(4,[(0,2)],[(2,0),(3,0)]),(9,[(0,2),(6,0),(8,0),(17,2),(18,0),(19,0),(34,0)],[(0,2),(6,0),(8,0),(17,2),(18,0),(19,0)]),(10,[(0,2),(6,0),(8,0),(17,2),(18,0),(19,0)],[(0,2),(6,0),(17,2),(18,0),(19,0)]),(11,[(0,2),(6,0),(17,2),(18,0),(19,0)],[(0,2),(6,0),(17,2),(18,0),(19,0)]),(13,[(6,0),(41,0)],[(6,0)]),(14,[(6,0)],[(2,0),(3,0)])],objs:=[(6,[(1000000,[]),(0,[3,1])]),(9,[(0,[3,1])]),(10,[(0,[3,1])]),(11,[(0,[3,1])]),(13,[(0,[3,1])])],res:=[(2,0),(3,0)]}
def H30:Hints:={ops:=[((1,1),{take:=[0]}),((1,2),{take:=[3]}),((1,3),{take:=[5]})]}
def H31:Hints:={ops:=[((8,10),{take:=[31]}),((9,0),{take:=[7]}),((9,5),{take:=[35]}),((9,6),{take:=[40]}),((11,0),{take:=[7]})],live:=[(6,[(0,0),(4,0),(7,1),(19,0),(20,0)],[(7,1)])],cuts:=[(4,[(0,0),(4,0)],[(2,0),(3,0)])],res:=[(2,0),(3,0)]}
def H32:Hints:={ops:=[((13,7),{take:=[50]}),((19,0),{take:=[7]}),((19,10),{take:=[80]}),((19,11),{take:=[90]}),((30,0),{take:=[7]}),((30,4),{take:=[137]}),((30,14),{take:=[141]}),((31,7),{take:=[156]}),((35,0),{take:=[7]}),((35,4),{take:=[165]}),((35,11),{take:=[17]}),((35,18),{take:=[169]}),((38,1),{take:=[7]}),((38,4),{take:=[186]})],live:=[(7,[(0,0),(7,1),(8,0),(9,0)],[(7,1),(8,0)]),(20,[(0,0),(7,1),(8,0),(9,0),(12,0),(13,0)],[(0,0),(7,1),(8,0),(12,0),(13,0)])],cuts:=[(4,[(0,0)],[(2,2),(3,0),(4,0),(5,0)]),(10,[(0,0),(7,1),(8,0),(9,0)],[(0,0),(7,1),(8,0),(9,0)]),(14,[(0,0),(7,1),(8,0),(9,0),(10,0)],[(0,0),(7,1),(8,0),(9,0)]),(19,[(0,0),(7,1),(8,0),(9,0),(12,0),(13,0)],[(0,0),(7,1),(8,0),(9,0)]),(26,[(0,0),(7,1),(8,0),(9,0)],[(0,0),(7,1),(8,0),(9,0)]),(30,[(0,0),(7,1),(8,0),(9,0),(15,0)],[(0,0),(7,1),(8,0),(9,0)]),(31,[(0,0),(7,1),(8,0),(9,0)],[(0,0),(7,1),(8,0),(9,0)]),(35,[(0,0),(7,1),(8,0),(16,0),(17,2),(18,0)],[(0,0),(7,1),(8,0),(9,0)]),(38,[(7,1),(8,0)],[(2,2),(3,0),(4,0),(5,0)])],res:=[(2,2),(3,0),(4,0),(5,0)]}
def H33:Hints:={ops:=[((1,1),{take:=[11]}),((6,0),{take:=[0]}),((11,0),{take:=[6]}),((11,3),{take:=[33],own:=true}),((11,4),{take:=[36]}),((16,0),{take:=[6]}),((16,4),{take:=[49]}),((16,5),{take:=[53]}),((19,0),{take:=[6]}),((19,1),{freeze:=[58]})],live:=[(7,[(6,4),(7,0),(18,2),(19,0),(20,0)],[(6,4),(7,0)])],cuts:=[(4,[(0,2)],[(2,0),(3,0)])],res:=[(2,0),(3,0)]}
def H34:Hints:={ops:=[((9,2),{take:=[6]}),((9,5),{take:=[29],own:=true}),((9,7),{take:=[32]}),((13,2),{take:=[6]}),((13,6),{take:=[40]}),((13,8),{take:=[44]}),((16,0),{take:=[6]}),((16,1),{freeze:=[50]})],live:=[(4,[(0,2),(4,0),(5,0),(6,4),(7,0)],[(4,0),(5,0),(6,4)])],cuts:=[(13,[(0,2),(4,0),(5,0),(6,4),(7,0)],[(0,2),(4,0),(5,0),(6,4),(7,0)])],res:=[(2,0),(3,0)]}
def H35:Hints:={ops:=[((6,17),{take:=[30]}),((7,3),{take:=[5]}),((7,10),{take:=[36,42]})],live:=[(3,[(0,2),(3,0),(4,0)],[(3,0)])],cuts:=[(9,[(0,2),(3,0),(4,0)],[(0,2),(3,0),(4,0)])],res:=[(2,0)]}
def H36:Hints:={cuts:=[(4,[(2,0),(4,0),(5,0)],[(2,0),(3,0)]),(6,[(2,0),(4,0)],[(2,0),(3,0)])],res:=[(2,0),(3,0)]}
def H37:Hints:={cuts:=[(3,[(0,0)],[(2,0),(3,0)])],res:=[(2,0),(3,0)]}
def H38:Hints:={}
def H39:Hints:={ops:=[((1,6),{take:=[10]}),((6,0),{take:=[4]})],cuts:=[(4,[(2,0),(4,2)],[(2,0),(3,0)])],res:=[(2,0),(3,0)]}
def H40:Hints:={live:=[(5,[(0,0),(4,0),(5,0)],[(4,0)])],cuts:=[(3,[(0,0)],[(2,0),(3,0)])],res:=[(2,0),(3,0)]}
def H41:Hints:={live:=[(4,[(0,0),(5,0)],[])],cuts:=[(3,[(0,0)],[(4,0)])],res:=[(4,0)]}
def H42:Hints:={live:=[(3,[(0,0),(3,0),(4,0)],[(3,0)])],res:=[(2,0)]}
def H44:Hints:={}
def H46:Hints:={cuts:=[(4,[(2,0),(4,0)],[(2,0),(3,0)])],res:=[(2,0),(3,0)]}
def H47:Hints:={live:=[(2,[(0,0),(1,0),(5,0)],[(5,0)])],res:=[(4,0)]}
def H48:Hints:={}
def H49:Hints:={}
def H50:Hints:={ops:=[((1,0),{take:=[0]}),((1,2),{take:=[5]})]}
def H51:Hints:={ops:=[((1,1),{take:=[1]})]}
def H52:Hints:={ops:=[((1,1),{take:=[1]})]}
def H53:Hints:={live:=[(4,[(0,0),(3,0)],[])],cuts:=[(3,[(0,0)],[(2,0)])],res:=[(2,0)]}
def H54:Hints:={ops:=[((2,0),{take:=[0]})],live:=[(3,[(1,0),(5,0),(8,2),(9,0),(10,0)],[(5,0)])],res:=[(4,0)]}
def H55:Hints:={ops:=[((1,1),{take:=[1]})]}
def H56:Hints:={ops:=[((1,1),{take:=[1]})]}
def H57:Hints:={ops:=[((4,5),{take:=[24]})],cuts:=[(4,[(7,0),(8,0)],[(4,2),(5,0),(6,0)])],res:=[(4,2),(5,0),(6,0)]}
def H58:Hints:={live:=[(4,[(0,0),(1,0),(4,0),(6,0)],[(0,0),(1,0),(4,0),(6,0)]),(14,[(0,0),(1,0),(4,0),(85,2),(86,0),(87,0)],[(0,0),(1,0),(4,0)]),(20,[(0,0),(1,0),(4,0),(103,2),(104,0),(105,0)],[(4,0)]),(30,[(0,0),(1,0),(4,0),(11,0),(133,2),(134,0),(135,0)],[(0,0),(1,0),(4,0),(11,0)]),(36,[(0,0),(1,0),(4,0),(11,0),(164,2),(165,0),(166,0)],[(4,0),(11,0)])],cuts:=[(8,[(0,0),(1,0),(4,0),(6,0)],[(0,0),(1,0),(4,0)]),(11,[(0,0),(1,0),(4,0),(5,0),(60,0)],[(0,0),(1,0),(4,0)]),(28,[(0,0),(1,0),(4,0)],[(4,0)])],res:=[(4,0)]}
def H59:Hints:={live:=[(2,[(0,0),(7,2),(8,0),(9,0)],[])],res:=[(2,0),(3,0)]}
def H64:Hints:={cuts:=[(3,[(0,0)],[(2,0)])],res:=[(2,0)]}
def H65:Hints:={}
def H67:Hints:={}
def H68:Hints:={live:=[(8,[(6,0),(7,0),(8,0),(36,0),(37,0)],[(8,0)])],cuts:=[(4,[(0,0),(1,0),(6,0),(7,0)],[(4,0),(5,0)]),(6,[(6,0),(7,0)],[(4,0),(5,0)]),(12,[(6,0),(7,0),(8,0),(9,0),(36,0),(37,0)],[(6,0),(7,0),(8,0),(36,0),(37,0)])],res:=[(4,0),(5,0)]}
def H69:Hints:={live:=[(1,[(0,0)],[(0,0)])],res:=[(2,0)]}
def H70:Hints:={}
def H71:Hints:={cuts:=[(4,[(0,0)],[(0,0)]),(5,[(0,0)],[(2,0)])],res:=[(2,0)]}
def H72:Hints:={ops:=[((3,0),{take:=[0]})],live:=[(4,[(10,2),(11,0),(12,0)],[])],cuts:=[(3,[(0,2)],[(2,0),(3,0)])],res:=[(2,0),(3,0)]}
def H73:Hints:={cuts:=[(3,[(2,0),(3,0)],[(4,0)])],res:=[(4,0)]}
def H74:Hints:={ops:=[((2,3),{outer:=true}),((2,4),{cell:=true,outer:=true}),((2,7),{take:=[11]}),((2,9),{outer:=true}),((2,10),{take:=[14],outer:=true})]}
def H75:Hints:={ops:=[((2,3),{outer:=true}),((2,4),{cell:=true,outer:=true}),((2,6),{take:=[12]}),((2,8),{outer:=true}),((2,9),{take:=[14],outer:=true})]}
def H76:Hints:={ops:=[((1,2),{outer:=true}),((1,3),{outer:=true})]}
def H78:Hints:={ops:=[((4,3),{freeze:=[4]}),((5,1),{push:=true}),((7,4),{freeze:=[4]}),((8,0),{freeze:=[7]})],cuts:=[(5,[(7,0)],[(4,0),(5,0),(6,0)]),(6,[(7,0),(9,0),(10,0)],[(7,0)]),(8,[(7,0)],[(4,0),(5,0),(6,0)]),(10,[(7,0)],[(4,0),(5,0),(6,0)])],objs:=[(6,[(0,[0,0,1,1])])],res:=[(4,0),(5,0),(6,0)]}
def H79:Hints:={ops:=[((1,0),{take:=[0]}),((1,2),{take:=[5]})]}
def H80:Hints:={live:=[(3,[(0,0),(7,0),(8,0)],[(0,0),(7,0),(8,0)])],cuts:=[(9,[(7,0),(8,0)],[(4,0),(5,0),(6,0)])],res:=[(4,0),(5,0),(6,0)]}
def H81:Hints:={live:=[(4,[(0,0),(4,0),(5,0),(6,0),(7,0)],[(4,0)])],cuts:=[(8,[(0,0),(4,0),(5,0),(6,0),(7,0)],[(0,0),(4,0),(5,0),(6,0),(7,0)]),(11,[(4,0),(6,0),(7,0)],[(0,0),(4,0),(5,0),(6,0),(7,0)]),(13,[(4,0),(6,0),(7,0)],[(0,0),(4,0),(5,0),(6,0),(7,0)])],res:=[(4,0)]}
def H82:Hints:={ops:=[((7,7),{take:=[7]}),((7,10),{take:=[27]}),((7,12),{take:=[30]}),((9,1),{take:=[7]}),((9,3),{take:=[42]})],live:=[(4,[(0,0),(6,0),(7,1),(8,0)],[(6,0),(7,1)])],res:=[(4,0),(5,2)]}
def H83:Hints:={live:=[(4,[(1,0),(3,0)],[])],cuts:=[(3,[(1,0)],[(2,0)])],res:=[(2,0)]}
def H85:Hints:={}
def H86:Hints:={}
def H90:Hints:={}
def H92:Hints:={}
def H93:Hints:={}
def H94:Hints:={live:=[(2,[(0,2),(1,0),(7,0),(8,0)],[])],res:=[(4,0)]}
def H95:Hints:={live:=[(4,[(0,0),(19,0),(20,0)],[])],cuts:=[(3,[(0,0)],[(2,0)])],res:=[(2,0)]}
def H96:Hints:={}
def H97:Hints:={ops:=[((1,1),{arr:=true}),((1,2),{take:=[6]}),((5,3),{arr:=true}),((5,9),{arr:=true}),((6,5),{arr:=true}),((7,0),{take:=[3]})],live:=[(3,[(3,0),(4,0)],[(3,0)])],res:=[(2,0)]}
def H98:Hints:={ops:=[((4,0),{own:=true}),((4,2),{take:=[28]})],live:=[(5,[(0,0),(1,0),(4,0),(5,0),(6,0),(7,0),(30,2),(31,0),(32,0)],[(0,0),(1,0),(4,0),(5,0),(6,0),(7,0)])],cuts:=[(14,[(0,0),(1,0),(4,0),(5,0),(6,0),(7,0),(10,0),(11,0)],[(4,0)]),(20,[(0,0),(1,0),(4,0),(5,0),(6,0),(10,0),(11,0),(12,0),(13,0),(14,0),(15,0)],[(0,0),(1,0),(4,0),(5,0),(6,0),(10,0),(11,0),(12,0),(13,0),(14,0)]),(24,[(0,0),(1,0),(4,0),(5,0),(6,0),(10,0),(11,0),(12,0),(15,0),(16,0)],[(0,0),(1,0),(4,0),(5,0),(6,0),(10,0),(11,0),(12,0),(13,0),(14,0)]),(28,[(0,0),(1,0),(4,0),(5,0),(6,0),(10,0),(11,0),(12,0),(13,0),(14,0),(15,0),(16,0)],[(0,0),(1,0),(4,0),(5,0),(6,0),(10,0),(11,0),(12,0),(13,0),(14,0)]),(31,[(0,0),(1,0),(4,0),(5,0),(6,0),(10,0),(11,0),(12,0),(13,0),(14,0)],[(4,0)]),(34,[(0,0),(1,0),(4,0),(5,0),(6,0)],[(0,0),(1,0),(4,0),(5,0),(6,0),(10,0),(11,0),(12,0),(13,0)]),(38,[(0,0),(1,0),(4,0),(5,0),(6,0),(10,0),(11,0),(12,0),(13,0)],[(4,0)]),(41,[(0,0),(1,0),(4,0),(5,0),(6,0),(12,0),(13,0),(18,0)],[(4,0)]),(44,[(4,0),(6,0),(12,0),(13,0),(19,0),(20,0)],[(4,0)])],res:=[(4,0)]}
def H99:Hints:={}
def UE:Hints:={ops:=[((1,7),{take:=[7]})]}
def UF:Hints:={}
def UG:Hints:={}
def UH:Hints:={}
def lV:Hints:={ops:=[((2,3),{outer:=true}),((2,4),{outer:=true}),((2,10),{outer:=true}),((2,11),{outer:=true}),((4,3),{outer:=true}),((4,4),{outer:=true}),((7,3),{outer:=true}),((7,4),{cell:=true,outer:=true}),((7,7),{take:=[42]}),((7,10),{outer:=true}),((7,11),{take:=[45],outer:=true})],live:=[(2,[(0,0),(2,0),(3,0),(6,0)],[(0,0),(2,0),(3,0),(6,0)])],cuts:=[(6,[(0,0),(2,0),(3,0),(6,0)],[(0,0),(2,0),(3,0),(6,0)])],res:=[(2,0),(3,0),(6,0)],pan:=[(2,0),(3,0),(6,0)],dfr:=some 6}
def UI:Hints:={live:=[(2,[(0,2),(1,0),(7,0),(8,0)],[])],res:=[(4,0)]}
def GC:Hints:={live:=[(3,[(0,0),(3,0),(4,0)],[(3,0)])],res:=[(2,0)]}
def UJ:Hints:={}
def UK:Hints:={}
def UL:Hints:={}
def GD:Hints:={live:=[(1,[(0,0)],[(0,0)])],res:=[(2,0)]}
def UM:Hints:={}
def UN:Hints:={ops:=[((5,2),{outer:=true})]}
def eF:Hints:={ops:=[((1,2),{outer:=true}),((1,3),{outer:=true})],cuts:=[(6,[(0,0),(1,0),(4,0),(6,0)],[(4,0),(5,0)]),(18,[(4,0),(14,0),(15,0)],[(0,0),(1,0),(4,0)]),(23,[(0,0),(1,0),(4,0)],[(4,0),(5,0)])],res:=[(4,0),(5,0)]}
def uC:Hints:={ops:=[((1,2),{outer:=true}),((1,3),{outer:=true}),((3,2),{outer:=true}),((3,3),{outer:=true}),((5,2),{outer:=true}),((5,3),{outer:=true}),((5,6),{outer:=true}),((5,7),{outer:=true}),((6,7),{take:=[31]})],cuts:=[(3,[(0,0)],[(2,0)]),(5,[(0,0)],[(2,0)])],res:=[(2,0)]}
def mK:Hints:={ops:=[((6,5),{outer:=true}),((6,6),{outer:=true}),((9,2),{outer:=true}),((9,3),{outer:=true})],cuts:=[(6,[(0,0),(4,0),(10,0),(11,0)],[(4,0),(5,0),(6,0)]),(8,[(0,0),(4,0),(10,0),(11,0)],[(4,0),(5,0),(6,0)])],res:=[(4,0),(5,0),(6,0)]}
def GE:Hints:={ops:=[((2,3),{outer:=true}),((2,4),{outer:=true}),((4,2),{outer:=true}),((4,3),{outer:=true})],cuts:=[(4,[(0,0),(1,0)],[(4,0),(5,0)])],res:=[(4,0),(5,0)]}
def uD:Hints:={ops:=[((4,0),{take:=[8]}),((5,0),{take:=[8]}),((5,3),{take:=[28]}),((5,5),{take:=[31]})],live:=[(2,[(0,0),(1,0),(2,0),(8,1)],[])],cuts:=[(5,[(0,0),(2,0),(8,1),(9,0),(10,0)],[(0,0),(1,0),(2,0),(8,1)])],res:=[(6,0),(7,0)]}
def UO:Hints:={}
def cX:Hints:={cuts:=[(9,[(0,0),(1,0),(4,0),(6,0),(7,0),(8,0)],[(4,0),(5,0)]),(12,[(1,0),(4,0),(6,0),(7,0),(14,0),(15,0),(16,0),(17,0)],[(4,0),(5,0)]),(14,[(1,0),(4,0),(6,0),(7,0),(14,0),(15,0),(17,0)],[(4,0),(5,0)]),(16,[(1,0),(4,0),(6,0),(7,0),(14,0),(15,0),(17,0)],[(4,0),(5,0)]),(21,[(1,0),(4,0),(14,0),(17,0),(18,0),(19,0)],[(4,0),(5,0)]),(23,[(1,0),(4,0),(18,0),(19,0)],[(4,0),(5,0)])],res:=[(4,0),(5,0)]}
def GF:Hints:={ops:=[((7,2),{take:=[38]})],cuts:=[(4,[(0,0),(8,0)],[(4,0),(5,0),(6,0)])],res:=[(4,0),(5,0),(6,0)]}
def jM:Hints:={ops:=[((1,2),{outer:=true}),((1,3),{outer:=true}),((6,2),{outer:=true}),((6,3),{outer:=true}),((9,3),{outer:=true}),((9,4),{outer:=true}),((11,2),{outer:=true}),((11,3),{outer:=true})],live:=[(6,[(0,0),(1,0),(4,0),(6,0),(7,0),(8,0)],[(0,0),(1,0),(4,0),(7,0),(8,0)])],cuts:=[(9,[(0,0),(1,0),(4,0),(6,0),(7,0),(8,0),(9,0)],[(0,0),(1,0),(4,0),(6,0),(7,0),(8,0)]),(15,[(0,0),(1,0),(4,0),(7,0),(8,0)],[(4,0),(5,0)])],res:=[(4,0),(5,0)]}
def iP:Hints:={ops:=[((7,5),{take:=[45]}),((13,2),{take:=[65]})],cuts:=[(7,[(4,0),(6,0),(7,0),(8,0),(9,0),(10,0)],[(4,0),(5,0)]),(9,[(4,0),(6,0),(7,0)],[(4,0),(5,0)]),(13,[(4,0),(7,0),(13,0)],[(4,0),(5,0)])],res:=[(4,0),(5,0)]}
def GG:Hints:={ops:=[((3,3),{outer:=true}),((3,4),{cell:=true,outer:=true}),((3,7),{take:=[17]}),((3,9),{outer:=true}),((3,10),{take:=[20],outer:=true})],live:=[(1,[(0,0),(2,0),(6,0)],[])],res:=[]}
def GH:Hints:={ops:=[((1,2),{outer:=true}),((1,3),{outer:=true}),((1,8),{outer:=true}),((1,9),{outer:=true}),((1,16),{outer:=true}),((1,17),{outer:=true})],live:=[(1,[(0,0),(1,0)],[(1,0)])],res:=[(4,0)]}
def lW:Hints:={cuts:=[(5,[(0,0),(4,0),(9,0)],[(4,0),(5,0),(6,0),(7,0)]),(11,[(0,0),(4,0),(9,0),(10,0)],[(4,0),(5,0),(6,0),(7,0)])],res:=[(4,0),(5,0),(6,0),(7,0)]}
def UP:Hints:={}
def UQ:Hints:={}
def UR:Hints:={ops:=[((1,8),{freeze:=[2]})]}
def Qu:FuncId→Hints
 |3=>H3
 |4=>H4
 |5=>H5
 |6=>H6
 |7=>H7
 |8=>H8
 |9=>H9
 |10=>H10
 |11=>H11
 |12=>H12
 |13=>H13
 |14=>H14
 |15=>H15
 |16=>H16
 |17=>H17
 |18=>H18
 |19=>H19
 |20=>H20
 |21=>H21
 |22=>H22
 |23=>H23
 |24=>H24
 |25=>H25
 |26=>H26
 |27=>H27
 |28=>H28
 |29=>H29
 |30=>H30
 |31=>H31
 |32=>H32
 |33=>H33
 |34=>H34
 |35=>H35
 |36=>H36
 |37=>H37
 |38=>H38
 |39=>H39
 |40=>H40
 |41=>H41
 |42=>H42
 |44=>H44
 |46=>H46
 |47=>H47
 |48=>H48
 |49=>H49
 |50=>H50
 |51=>H51
 |52=>H52
 |53=>H53
 |54=>H54
 |55=>H55
 |56=>H56
 |57=>H57
 |58=>H58
 |59=>H59
 |64=>H64
 |65=>H65
 |67=>H67
 |68=>H68
 |69=>H69
 |70=>H70
 |71=>H71
 |72=>H72
 |73=>H73
 |74=>H74
 |75=>H75
 |76=>H76
 |78=>H78
 |79=>H79
 |80=>H80
 |81=>H81
 |82=>H82
 |83=>H83
 |85=>H85
 |86=>H86
 |90=>H90
 |92=>H92
 |93=>H93
 |94=>H94
 |95=>H95
 |96=>H96
 |97=>H97
 |98=>H98
 |99=>H99
 |100=>UE
 |112=>UF
 |114=>UG
 |117=>UH
 |118=>lV
 |119=>UI
 |120=>GC
 |122=>UJ
 |132=>UK
 |133=>UL
 |134=>GD
 |135=>UM
 |147=>UN
 |148=>eF
 |166=>uC
 |167=>mK
 |168=>GE
 |169=>uD
 |170=>UO
 |171=>cX
 |172=>GF
 |173=>jM
 |174=>iP
 |189=>GG
 |190=>GH
 |191=>lW
 |192=>UP
 |193=>UQ
 |196=>UR
 |_=>{}
def lQ:FuncId→Option (UInt8→Bool)
 |122=>some fun b=>decide (b.toNat<32)||decide (126<b.toNat)
 |112=>some fun b=>decide (b.toNat<48)||decide (57<b.toNat)
 |44=>some fun b=>decide (b.toNat<48)||decide (57<b.toNat)
 |92=>some fun b=> !((decide (97≤b.toNat)&&decide (b.toNat≤122))||(decide (65≤b.toNat)&&decide (b.toNat≤90))||(decide (48≤b.toNat)&&decide (b.toNat≤57))||decide (b.toNat=95))
 |_=>none
def Je:FuncId→Option fO
 |91=>some (qy)
 |45=>some (Ak 146)
 |66=>some (xh)
 |195=>some (ml)
 |194=>some (li)
 |62=>some (nQ)
 |63=>some (mm)
 |145=>some (xg)
 |115=>some (nP)
 |61=>some (S2)
 |60=>some (zk)
 |84=>some (lh)
 |43=>some (gx lQ)
 |116=>some (iE 103)
 |77=>some (o2 103)
 |_=>none
noncomputable def E:Env:={P:=Tryz.prog,hints:=Qu,prim:=Je}
def cT {β:Type}(v:LV)(k:Int→Int→List UInt8→Option β):Option β:=opt (lH v) fun cs=>opt (aA cs) fun q0=>opt (aF .i64 (.cv q0.1)) fun x0=>opt (aA q0.2) fun q1=>opt (aF .i64 (.cv q1.1)) fun x1=>opt (aA q1.2) fun q2=>opt (aL (.cv q2.1)) fun x2=>opt (aO q2.2) fun _=>k x0 x1 x2
def Ck {β:Type}(v:LV)(k:Int→Int→List UInt8→Int→Int→Option β):Option β:=opt (lH v) fun cs=>opt (aA cs) fun q0=>opt (aF .i64 (.cv q0.1)) fun x0=>opt (aA q0.2) fun q1=>opt (aF .i64 (.cv q1.1)) fun x1=>opt (aA q1.2) fun q2=>opt (aL (.cv q2.1)) fun x2=>opt (aA q2.2) fun q3=>opt (aF .i64 (.cv q3.1)) fun x3=>opt (aA q3.2) fun q4=>opt (aF .i64 (.cv q4.1)) fun x4=>opt (aO q4.2) fun _=>k x0 x1 x2 x3 x4
def PW {β:Type}(v:LV)(k:List UInt8→List UInt8→Option β):Option β:=opt (lH v) fun cs=>opt (aA cs) fun q0=>opt (aL (.cv q0.1)) fun x0=>opt (aA q0.2) fun q1=>opt (aL (.cv q1.1)) fun x1=>opt (aO q1.2) fun _=>k x0 x1
noncomputable section
def cA (f:FuncId)(p:List Nat):Code:=RO E.P f p
def mS (fr:List (Nat×LV))(lam:Lam)(p:Bool:=false):S:={fr:=dP fr,lam:=lam,pushed:=p}
def kS (ρ:Rho)(H:Hints)(ks:List Kont)(lv:List (Nat×Nat))(st:St):Option St:=iQ E.P ρ H ks st (S7 H lv)
def kB (ρ:Rho)(f:FuncId)(H:Hints)(ks:List Kont)(st:St):Option Out:=iQ E.P ρ H ks st (Qd E.P (Am E.P f))
def kR (ρ:Rho)(H:Hints)(ks:List Kont)(lv:List (Nat×Nat))(c:Code)(st:St):Option St:=iQ E.P ρ H ks st (OP E.P ρ H lv c)
abbrev pX (f:CV→Mu→St)(v:CV)(μ:Mu):Option St:=some (f v μ)
abbrev pP (v:CV)(μ:Mu):Option Out:=aB (below μ.length v) (some (.panic v μ))
abbrev pN {α:Type}(_:CV)(_:Mu):Option α:=none
structure SegD where
 H:Hints
 lv:List (Nat×Nat)
 c:Code
 s:S
def SegD.seg (d:SegD)(ρ:Rho)(μ:Mu):Option St:=ρ.seg d.H d.lv d.c d.s μ
def SegD.loop (d:SegD)(ρ:Rho)(μ:Mu):Option St:=ρ.loop d.H d.lv d.c d.s μ
def SegD.sK (d:SegD)(ρ:Rho)(μ:Mu):Option St:=sM E.P ρ d.H d.lv d.c d.s μ
def SegD.rK (d:SegD)(ρ:Rho)(μ:Mu):Option St:=lP E.P ρ d.H d.lv d.c d.s μ
theorem aT {d:SegD}{μ:Mu}{st:St}(h:d.sK (ev E) μ=some st):d.seg (ev E) μ=some st:=RQ h
theorem ba {d:SegD}{μ:Mu}{st:St}(h:d.rK (ev E) μ=some st):d.loop (ev E) μ=some st:=Qr h
end
end Go.Abs
namespace Go.Proofs
open Go.Shelf
def Tryz.lays169_ren:Go.Shelf.Ren:=⟨fun|169=>77|n=>n,fun|70=>100|9=>9|0=>0|72=>103|37=>101|127=>137|3=>3|5=>5|n=>n,fun|n=>n⟩
theorem Tryz.Builder_Extra_169 : Builder.Extra Tryz.prog Tryz.lays169_ren := {
 sizeBuilder:=by kernel_rfl
 liesBuilder:=by kernel_rfl
 t5:=Tryz.underlying5
 a5:=Tryz.isAgg5
 z5:=Tryz.sizeOf5
 v5:=Tryz.zeroValue5
 infoByte:=by kernel_rfl
 cellsByte:=by kernel_rfl
 sizeByte:=by kernel_rfl
 neB5:=by decide}
def Tryz.lays158_ren:Go.Shelf.Ren:=⟨fun|158=>91|165=>129|166=>75|167=>74|169=>77|230=>130|203=>131|240=>116|241=>153|197=>141|118=>154|168=>155|270=>156|262=>157|276=>146|277=>179|260=>160|242=>180|313=>181|278=>197|274=>198|275=>199|n=>n,fun|9=>9|4=>4|3=>3|5=>5|72=>103|0=>0|76=>77|75=>76|107=>151|70=>100|20=>20|37=>101|127=>137|21=>21|105=>155|164=>159|162=>195|203=>193|119=>199|46=>154|139=>202|138=>201|51=>196|160=>212|208=>219|206=>217|80=>107|n=>n,fun|13=>3|3=>4|4=>5|n=>n⟩
theorem Tryz.lays158 : Go.Proofs.Lays.n158 Tryz.prog Tryz.lays158_ren := {
 mixed:=by kernel_rfl
 f118:=Tryz.func154.trans (congrArg some (by kernel_rfl))
 f158:=Tryz.func91.trans (congrArg some (by kernel_rfl))
 f165:=Tryz.func129.trans (congrArg some (by kernel_rfl))
 f166:=Tryz.func75.trans (congrArg some (by kernel_rfl))
 f167:=Tryz.func74.trans (congrArg some (by kernel_rfl))
 f168:=Tryz.func155.trans (congrArg some (by kernel_rfl))
 f169:=Tryz.func77.trans (congrArg some (by kernel_rfl))
 f197:=Tryz.func141.trans (congrArg some (by kernel_rfl))
 f203:=Tryz.func131.trans (congrArg some (by kernel_rfl))
 f230:=Tryz.func130.trans (congrArg some (by kernel_rfl))
 f240:=Tryz.func116.trans (congrArg some (by kernel_rfl))
 f241:=Tryz.func153.trans (congrArg some (by kernel_rfl))
 f242:=Tryz.func180.trans (congrArg some (by kernel_rfl))
 f260:=Tryz.func160.trans (congrArg some (by kernel_rfl))
 f262:=Tryz.func157.trans (congrArg some (by kernel_rfl))
 f270:=Tryz.func156.trans (congrArg some (by kernel_rfl))
 f274:=Tryz.func198.trans (congrArg some (by kernel_rfl))
 f275:=Tryz.func199.trans (congrArg some (by kernel_rfl))
 f276:=Tryz.func146.trans (congrArg some (by kernel_rfl))
 f277:=Tryz.func179.trans (congrArg some (by kernel_rfl))
 f278:=Tryz.func197.trans (congrArg some (by kernel_rfl))
 f313:=Tryz.func181.trans (congrArg some (by kernel_rfl))
 t0:=Tryz.underlying0
 a0:=Tryz.isAgg0
 z0:=Tryz.sizeOf0
 v0:=Tryz.zeroValue0
 t3:=Tryz.underlying3
 a3:=Tryz.isAgg3
 z3:=Tryz.sizeOf3
 v3:=Tryz.zeroValue3
 t4:=Tryz.underlying4
 a4:=Tryz.isAgg4
 z4:=Tryz.sizeOf4
 v4:=Tryz.zeroValue4
 t5:=Tryz.underlying5
 a5:=Tryz.isAgg5
 z5:=Tryz.sizeOf5
 v5:=Tryz.zeroValue5
 t9:=Tryz.underlying9
 a9:=Tryz.isAgg9
 z9:=Tryz.sizeOf9
 v9:=Tryz.zeroValue9
 t20:=Tryz.underlying20
 a20:=Tryz.isAgg20
 z20:=Tryz.sizeOf20
 v20:=Tryz.zeroValue20
 t21:=Tryz.underlying21
 a21:=Tryz.isAgg21
 z21:=Tryz.sizeOf21
 v21:=Tryz.zeroValue21
 t37:=Tryz.underlying101
 a37:=Tryz.isAgg101
 z37:=Tryz.sizeOf101
 v37:=Tryz.zeroValue101
 t46:=Tryz.underlying154
 a46:=Tryz.isAgg154
 z46:=Tryz.sizeOf154
 v46:=Tryz.zeroValue154
 t51:=Tryz.underlying196
 a51:=Tryz.isAgg196
 z51:=Tryz.sizeOf196
 v51:=Tryz.zeroValue196
 t70:=Tryz.underlying100
 a70:=Tryz.isAgg100
 z70:=Tryz.sizeOf100
 v70:=Tryz.zeroValue100
 t72:=Tryz.underlying103
 a72:=Tryz.isAgg103
 z72:=Tryz.sizeOf103
 v72:=Tryz.zeroValue103
 t75:=Tryz.underlying76
 a75:=Tryz.isAgg76
 z75:=Tryz.sizeOf76
 v75:=Tryz.zeroValue76
 t76:=Tryz.underlying77
 a76:=Tryz.isAgg77
 z76:=Tryz.sizeOf77
 v76:=Tryz.zeroValue77
 t105:=Tryz.underlying155
 a105:=Tryz.isAgg155
 z105:=Tryz.sizeOf155
 v105:=Tryz.zeroValue155
 t107:=Tryz.underlying151
 a107:=Tryz.isAgg151
 z107:=Tryz.sizeOf151
 v107:=Tryz.zeroValue151
 t119:=Tryz.underlying199
 a119:=Tryz.isAgg199
 z119:=Tryz.sizeOf199
 t127:=Tryz.underlying137
 a127:=Tryz.isAgg137
 z127:=Tryz.sizeOf137
 v127:=Tryz.zeroValue137
 t138:=Tryz.underlying201
 a138:=Tryz.isAgg201
 z138:=Tryz.sizeOf201
 v138:=Tryz.zeroValue201
 t139:=Tryz.underlying202
 a139:=Tryz.isAgg202
 z139:=Tryz.sizeOf202
 v139:=Tryz.zeroValue202
 t160:=Tryz.underlying212
 a160:=Tryz.isAgg212
 z160:=Tryz.sizeOf212
 v160:=Tryz.zeroValue212
 t162:=Tryz.underlying195
 a162:=Tryz.isAgg195
 z162:=Tryz.sizeOf195
 v162:=Tryz.zeroValue195
 t164:=Tryz.underlying159
 a164:=Tryz.isAgg159
 z164:=Tryz.sizeOf159
 v164:=Tryz.zeroValue159
 t203:=Tryz.underlying193
 a203:=Tryz.isAgg193
 z203:=Tryz.sizeOf193
 v203:=Tryz.zeroValue193
 t206:=Tryz.underlying217
 a206:=Tryz.isAgg217
 z206:=Tryz.sizeOf217
 v206:=Tryz.zeroValue217
 t208:=Tryz.underlying219
 a208:=Tryz.isAgg219
 z208:=Tryz.sizeOf219
 v208:=Tryz.zeroValue219
 g3:=by kernel_rfl
 g4:=by kernel_rfl
 g13:=by kernel_rfl}
theorem Tryz.Builder_Extra_158 : Builder.Extra Tryz.prog Tryz.lays158_ren := {
 sizeBuilder:=by kernel_rfl
 liesBuilder:=by kernel_rfl
 t5:=Tryz.underlying5
 a5:=Tryz.isAgg5
 z5:=Tryz.sizeOf5
 v5:=Tryz.zeroValue5
 infoByte:=by kernel_rfl
 cellsByte:=by kernel_rfl
 sizeByte:=by kernel_rfl
 neB5:=by decide}
def Tryz.lays161_ren:Go.Shelf.Ren:=⟨fun|161=>62|231=>106|227=>103|233=>107|235=>108|228=>104|197=>141|151=>142|260=>160|152=>101|137=>136|119=>137|224=>138|225=>139|217=>158|266=>182|n=>n,fun|9=>9|4=>4|3=>3|5=>5|117=>131|116=>130|0=>0|124=>135|105=>155|21=>21|119=>199|46=>154|139=>202|138=>201|n=>n,fun|3=>4|4=>5|n=>n⟩
theorem Tryz.lays161 : Go.Proofs.Lays.n161 Tryz.prog Tryz.lays161_ren := {
 mixed:=by kernel_rfl
 f119:=Tryz.func137.trans (congrArg some (by kernel_rfl))
 f137:=Tryz.func136.trans (congrArg some (by kernel_rfl))
 f151:=Tryz.func142.trans (congrArg some (by kernel_rfl))
 f152:=Tryz.func101.trans (congrArg some (by kernel_rfl))
 f161:=Tryz.func62.trans (congrArg some (by kernel_rfl))
 f197:=Tryz.func141.trans (congrArg some (by kernel_rfl))
 f217:=Tryz.func158.trans (congrArg some (by kernel_rfl))
 f224:=Tryz.func138.trans (congrArg some (by kernel_rfl))
 f225:=Tryz.func139.trans (congrArg some (by kernel_rfl))
 f227:=Tryz.func103.trans (congrArg some (by kernel_rfl))
 f228:=Tryz.func104.trans (congrArg some (by kernel_rfl))
 f231:=Tryz.func106.trans (congrArg some (by kernel_rfl))
 f233:=Tryz.func107.trans (congrArg some (by kernel_rfl))
 f235:=Tryz.func108.trans (congrArg some (by kernel_rfl))
 f260:=Tryz.func160.trans (congrArg some (by kernel_rfl))
 f266:=Tryz.func182.trans (congrArg some (by kernel_rfl))
 t0:=Tryz.underlying0
 a0:=Tryz.isAgg0
 z0:=Tryz.sizeOf0
 v0:=Tryz.zeroValue0
 t3:=Tryz.underlying3
 a3:=Tryz.isAgg3
 z3:=Tryz.sizeOf3
 v3:=Tryz.zeroValue3
 t4:=Tryz.underlying4
 a4:=Tryz.isAgg4
 z4:=Tryz.sizeOf4
 v4:=Tryz.zeroValue4
 t5:=Tryz.underlying5
 a5:=Tryz.isAgg5
 z5:=Tryz.sizeOf5
 v5:=Tryz.zeroValue5
 t9:=Tryz.underlying9
 a9:=Tryz.isAgg9
 z9:=Tryz.sizeOf9
 v9:=Tryz.zeroValue9
 t21:=Tryz.underlying21
 a21:=Tryz.isAgg21
 z21:=Tryz.sizeOf21
 v21:=Tryz.zeroValue21
 t46:=Tryz.underlying154
 a46:=Tryz.isAgg154
 z46:=Tryz.sizeOf154
 v46:=Tryz.zeroValue154
 t105:=Tryz.underlying155
 a105:=Tryz.isAgg155
 z105:=Tryz.sizeOf155
 v105:=Tryz.zeroValue155
 t116:=Tryz.underlying130
 a116:=Tryz.isAgg130
 z116:=Tryz.sizeOf130
 t117:=Tryz.underlying131
 a117:=Tryz.isAgg131
 z117:=Tryz.sizeOf131
 v117:=Tryz.zeroValue131
 t119:=Tryz.underlying199
 a119:=Tryz.isAgg199
 z119:=Tryz.sizeOf199
 t124:=Tryz.underlying135
 a124:=Tryz.isAgg135
 z124:=Tryz.sizeOf135
 v124:=Tryz.zeroValue135
 t138:=Tryz.underlying201
 a138:=Tryz.isAgg201
 z138:=Tryz.sizeOf201
 v138:=Tryz.zeroValue201
 t139:=Tryz.underlying202
 a139:=Tryz.isAgg202
 z139:=Tryz.sizeOf202
 v139:=Tryz.zeroValue202
 g3:=by kernel_rfl
 g4:=by kernel_rfl}
open Go.RowKit in
theorem Tryz.strings_TrimLeft_one (s:ByteArray)(c:UInt8)(hc:c.toNat<128)(w:World):
  Calls Tryz.prog 62 #[.string s,.string ⟨#[c]⟩] w fun e w'=>e= .returned (.string ⟨(Lib.trimLeftB s.data.toList c).toArray⟩)∧w'=w:=Any.strings_TrimLeft_one Tryz.lays161 s c hc w
def Tryz.lays162_ren:Go.Shelf.Ren:=⟨fun|162=>63|232=>109|227=>103|234=>110|236=>111|228=>104|271=>143|151=>142|120=>161|197=>141|152=>101|260=>160|137=>136|119=>137|224=>138|225=>139|217=>158|266=>182|n=>n,fun|9=>9|4=>4|3=>3|5=>5|117=>131|116=>130|0=>0|124=>135|21=>21|105=>155|46=>154|119=>199|139=>202|138=>201|n=>n,fun|3=>4|4=>5|n=>n⟩
theorem Tryz.lays162 : Go.Proofs.Lays.n162 Tryz.prog Tryz.lays162_ren := {
 mixed:=by kernel_rfl
 f119:=Tryz.func137.trans (congrArg some (by kernel_rfl))
 f120:=Tryz.func161.trans (congrArg some (by kernel_rfl))
 f137:=Tryz.func136.trans (congrArg some (by kernel_rfl))
 f151:=Tryz.func142.trans (congrArg some (by kernel_rfl))
 f152:=Tryz.func101.trans (congrArg some (by kernel_rfl))
 f162:=Tryz.func63.trans (congrArg some (by kernel_rfl))
 f197:=Tryz.func141.trans (congrArg some (by kernel_rfl))
 f217:=Tryz.func158.trans (congrArg some (by kernel_rfl))
 f224:=Tryz.func138.trans (congrArg some (by kernel_rfl))
 f225:=Tryz.func139.trans (congrArg some (by kernel_rfl))
 f227:=Tryz.func103.trans (congrArg some (by kernel_rfl))
 f228:=Tryz.func104.trans (congrArg some (by kernel_rfl))
 f232:=Tryz.func109.trans (congrArg some (by kernel_rfl))
 f234:=Tryz.func110.trans (congrArg some (by kernel_rfl))
 f236:=Tryz.func111.trans (congrArg some (by kernel_rfl))
 f260:=Tryz.func160.trans (congrArg some (by kernel_rfl))
 f266:=Tryz.func182.trans (congrArg some (by kernel_rfl))
 f271:=Tryz.func143.trans (congrArg some (by kernel_rfl))
 t0:=Tryz.underlying0
 a0:=Tryz.isAgg0
 z0:=Tryz.sizeOf0
 v0:=Tryz.zeroValue0
 t3:=Tryz.underlying3
 a3:=Tryz.isAgg3
 z3:=Tryz.sizeOf3
 v3:=Tryz.zeroValue3
 t4:=Tryz.underlying4
 a4:=Tryz.isAgg4
 z4:=Tryz.sizeOf4
 v4:=Tryz.zeroValue4
 t5:=Tryz.underlying5
 a5:=Tryz.isAgg5
 z5:=Tryz.sizeOf5
 v5:=Tryz.zeroValue5
 t9:=Tryz.underlying9
 a9:=Tryz.isAgg9
 z9:=Tryz.sizeOf9
 v9:=Tryz.zeroValue9
 t21:=Tryz.underlying21
 a21:=Tryz.isAgg21
 z21:=Tryz.sizeOf21
 v21:=Tryz.zeroValue21
 t46:=Tryz.underlying154
 a46:=Tryz.isAgg154
 z46:=Tryz.sizeOf154
 v46:=Tryz.zeroValue154
 t105:=Tryz.underlying155
 a105:=Tryz.isAgg155
 z105:=Tryz.sizeOf155
 v105:=Tryz.zeroValue155
 t116:=Tryz.underlying130
 a116:=Tryz.isAgg130
 z116:=Tryz.sizeOf130
 t117:=Tryz.underlying131
 a117:=Tryz.isAgg131
 z117:=Tryz.sizeOf131
 v117:=Tryz.zeroValue131
 t119:=Tryz.underlying199
 a119:=Tryz.isAgg199
 z119:=Tryz.sizeOf199
 t124:=Tryz.underlying135
 a124:=Tryz.isAgg135
 z124:=Tryz.sizeOf135
 v124:=Tryz.zeroValue135
 t138:=Tryz.underlying201
 a138:=Tryz.isAgg201
 z138:=Tryz.sizeOf201
 v138:=Tryz.zeroValue201
 t139:=Tryz.underlying202
 a139:=Tryz.isAgg202
 z139:=Tryz.sizeOf202
 v139:=Tryz.zeroValue202
 g3:=by kernel_rfl
 g4:=by kernel_rfl}
open Go.RowKit in
theorem Tryz.strings_TrimRight_one (s:ByteArray)(c:UInt8)(hc:c.toNat<128)(w:World)(hs:s.size≤9223372036854775807):
  Calls Tryz.prog 63 #[.string s,.string ⟨#[c]⟩] w fun e w'=>e= .returned (.string ⟨(Lib.trimRightB s.data.toList c).toArray⟩)∧w'=w:=Any.strings_TrimRight_one Tryz.lays162 s c hc w hs
def Tryz.laysM171_ren:Go.Shelf.Ren:=⟨fun|171=>66|243=>113|246=>144|283=>162|284=>163|285=>164|286=>165|129=>185|317=>184|318=>186|319=>187|320=>188|337=>200|338=>201|n=>n,fun|3=>3|9=>9|2=>2|4=>4|171=>174|0=>0|53=>165|37=>101|5=>5|173=>177|212=>204|51=>196|20=>20|213=>205|46=>154|232=>220|233=>221|n=>n,fun|17=>6|18=>7|19=>8|n=>n⟩
theorem Tryz.laysM171 : Go.Proofs.LaysM.n171 Tryz.prog Tryz.laysM171_ren := {
 mixed:=by kernel_rfl
 f129:=Tryz.func185.trans (congrArg some (by kernel_rfl))
 f171:=Tryz.func66.trans (congrArg some (by kernel_rfl))
 f243:=Tryz.func113.trans (congrArg some (by kernel_rfl))
 f246:=Tryz.func144.trans (congrArg some (by kernel_rfl))
 f283:=Tryz.func162.trans (congrArg some (by kernel_rfl))
 f284:=Tryz.func163.trans (congrArg some (by kernel_rfl))
 f285:=Tryz.func164.trans (congrArg some (by kernel_rfl))
 f286:=Tryz.func165.trans (congrArg some (by kernel_rfl))
 f317:=Tryz.func184.trans (congrArg some (by kernel_rfl))
 f318:=Tryz.func186.trans (congrArg some (by kernel_rfl))
 f319:=Tryz.func187.trans (congrArg some (by kernel_rfl))
 f320:=Tryz.func188.trans (congrArg some (by kernel_rfl))
 f337:=Tryz.func200.trans (congrArg some (by kernel_rfl))
 f338:=Tryz.func201.trans (congrArg some (by kernel_rfl))
 t0:=Tryz.underlying0
 a0:=Tryz.isAgg0
 z0:=Tryz.sizeOf0
 v0:=Tryz.zeroValue0
 t2:=Tryz.underlying2
 a2:=Tryz.isAgg2
 z2:=Tryz.sizeOf2
 v2:=Tryz.zeroValue2
 t3:=Tryz.underlying3
 a3:=Tryz.isAgg3
 z3:=Tryz.sizeOf3
 v3:=Tryz.zeroValue3
 t4:=Tryz.underlying4
 a4:=Tryz.isAgg4
 z4:=Tryz.sizeOf4
 v4:=Tryz.zeroValue4
 t5:=Tryz.underlying5
 a5:=Tryz.isAgg5
 z5:=Tryz.sizeOf5
 v5:=Tryz.zeroValue5
 t9:=Tryz.underlying9
 a9:=Tryz.isAgg9
 z9:=Tryz.sizeOf9
 v9:=Tryz.zeroValue9
 t20:=Tryz.underlying20
 a20:=Tryz.isAgg20
 z20:=Tryz.sizeOf20
 v20:=Tryz.zeroValue20
 t37:=Tryz.underlying101
 a37:=Tryz.isAgg101
 z37:=Tryz.sizeOf101
 v37:=Tryz.zeroValue101
 t46:=Tryz.underlying154
 a46:=Tryz.isAgg154
 z46:=Tryz.sizeOf154
 v46:=Tryz.zeroValue154
 t51:=Tryz.underlying196
 a51:=Tryz.isAgg196
 z51:=Tryz.sizeOf196
 v51:=Tryz.zeroValue196
 t53:=Tryz.underlying165
 a53:=Tryz.isAgg165
 z53:=Tryz.sizeOf165
 v53:=Tryz.zeroValue165
 t171:=Tryz.underlying174
 a171:=Tryz.isAgg174
 z171:=Tryz.sizeOf174
 v171:=Tryz.zeroValue174
 t173:=Tryz.underlying177
 a173:=Tryz.isAgg177
 z173:=Tryz.sizeOf177
 v173:=Tryz.zeroValue177
 t212:=Tryz.underlying204
 a212:=Tryz.isAgg204
 z212:=Tryz.sizeOf204
 v212:=Tryz.zeroValue204
 t213:=Tryz.underlying205
 a213:=Tryz.isAgg205
 z213:=Tryz.sizeOf205
 t232:=Tryz.underlying220
 a232:=Tryz.isAgg220
 z232:=Tryz.sizeOf220
 v232:=Tryz.zeroValue220
 t233:=Tryz.underlying221
 a233:=Tryz.isAgg221
 z233:=Tryz.sizeOf221
 v233:=Tryz.zeroValue221
 g17:=by kernel_rfl
 g18:=by kernel_rfl
 g19:=by kernel_rfl
 i0:=by kernel_rfl
 i2:=by kernel_rfl
 i3:=by kernel_rfl
 i4:=by kernel_rfl
 i5:=by kernel_rfl
 i9:=by kernel_rfl
 i20:=by kernel_rfl
 i37:=by kernel_rfl
 i46:=by kernel_rfl
 i51:=by kernel_rfl
 i53:=by kernel_rfl
 i171:=by kernel_rfl
 i173:=by kernel_rfl
 i212:=by kernel_rfl
 i232:=by kernel_rfl
 i233:=by kernel_rfl
 m17:=by kernel_rfl
 m18:=by kernel_rfl
 m19:=by kernel_rfl}
open Go.RowKit Go.Sort Go.Lib in
theorem Tryz.strconv_Itoa (n:Int)(h0: -9223372036854775808≤n)(h1:n≤9223372036854775807)(w:World)(htab:Lib.TabIs Tryz.prog w "internal/strconv.uint64pow10" .u64 Lib.pow10Tab):
  Calls Tryz.prog 66 #[.int .i64 n] w fun e w'=>e= .returned (.string ⟨(Lib.itoa n).toArray⟩)∧ ∃k os,w'=grow (w.drewN k) os:=Any.strconv_Itoa Tryz.laysM171 n h0 h1 w htab
def Tryz.laysC172_ren:Go.Shelf.Ren:=⟨fun|172=>45|244=>88|245=>89|247=>124|279=>125|280=>126|281=>127|282=>128|287=>150|316=>151|171=>66|205=>152|321=>177|322=>178|243=>113|246=>144|283=>162|284=>163|285=>164|286=>165|129=>185|317=>184|318=>186|319=>187|320=>188|337=>200|338=>201|n=>n,fun|9=>9|3=>3|75=>76|76=>77|4=>4|5=>5|167=>143|37=>101|0=>0|85=>144|2=>2|168=>146|53=>165|175=>166|46=>154|210=>169|127=>137|145=>190|143=>188|21=>21|171=>174|173=>177|212=>204|51=>196|20=>20|213=>205|232=>220|233=>221|80=>107|n=>n,fun|15=>0|16=>1|17=>6|18=>7|19=>8|n=>n⟩
theorem Tryz.laysC172 : Go.Proofs.LaysC.n172 Tryz.prog Tryz.laysC172_ren := {
 mixed:=by kernel_rfl
 f129:=Tryz.func185.trans (congrArg some (by kernel_rfl))
 f171:=Tryz.func66.trans (congrArg some (by kernel_rfl))
 f172:=Tryz.func45.trans (congrArg some (by kernel_rfl))
 f205:=Tryz.func152.trans (congrArg some (by kernel_rfl))
 f243:=Tryz.func113.trans (congrArg some (by kernel_rfl))
 f244:=Tryz.func88.trans (congrArg some (by kernel_rfl))
 f245:=Tryz.func89.trans (congrArg some (by kernel_rfl))
 f246:=Tryz.func144.trans (congrArg some (by kernel_rfl))
 f247:=Tryz.func124.trans (congrArg some (by kernel_rfl))
 f279:=Tryz.func125.trans (congrArg some (by kernel_rfl))
 f280:=Tryz.func126.trans (congrArg some (by kernel_rfl))
 f281:=Tryz.func127.trans (congrArg some (by kernel_rfl))
 f282:=Tryz.func128.trans (congrArg some (by kernel_rfl))
 f283:=Tryz.func162.trans (congrArg some (by kernel_rfl))
 f284:=Tryz.func163.trans (congrArg some (by kernel_rfl))
 f285:=Tryz.func164.trans (congrArg some (by kernel_rfl))
 f286:=Tryz.func165.trans (congrArg some (by kernel_rfl))
 f287:=Tryz.func150.trans (congrArg some (by kernel_rfl))
 f316:=Tryz.func151.trans (congrArg some (by kernel_rfl))
 f317:=Tryz.func184.trans (congrArg some (by kernel_rfl))
 f318:=Tryz.func186.trans (congrArg some (by kernel_rfl))
 f319:=Tryz.func187.trans (congrArg some (by kernel_rfl))
 f320:=Tryz.func188.trans (congrArg some (by kernel_rfl))
 f321:=Tryz.func177.trans (congrArg some (by kernel_rfl))
 f322:=Tryz.func178.trans (congrArg some (by kernel_rfl))
 f337:=Tryz.func200.trans (congrArg some (by kernel_rfl))
 f338:=Tryz.func201.trans (congrArg some (by kernel_rfl))
 t0:=Tryz.underlying0
 a0:=Tryz.isAgg0
 z0:=Tryz.sizeOf0
 v0:=Tryz.zeroValue0
 t2:=Tryz.underlying2
 a2:=Tryz.isAgg2
 z2:=Tryz.sizeOf2
 v2:=Tryz.zeroValue2
 t3:=Tryz.underlying3
 a3:=Tryz.isAgg3
 z3:=Tryz.sizeOf3
 v3:=Tryz.zeroValue3
 t4:=Tryz.underlying4
 a4:=Tryz.isAgg4
 z4:=Tryz.sizeOf4
 v4:=Tryz.zeroValue4
 t5:=Tryz.underlying5
 a5:=Tryz.isAgg5
 z5:=Tryz.sizeOf5
 v5:=Tryz.zeroValue5
 t9:=Tryz.underlying9
 a9:=Tryz.isAgg9
 z9:=Tryz.sizeOf9
 v9:=Tryz.zeroValue9
 t20:=Tryz.underlying20
 a20:=Tryz.isAgg20
 z20:=Tryz.sizeOf20
 v20:=Tryz.zeroValue20
 t21:=Tryz.underlying21
 a21:=Tryz.isAgg21
 z21:=Tryz.sizeOf21
 v21:=Tryz.zeroValue21
 t37:=Tryz.underlying101
 a37:=Tryz.isAgg101
 z37:=Tryz.sizeOf101
 v37:=Tryz.zeroValue101
 t46:=Tryz.underlying154
 a46:=Tryz.isAgg154
 z46:=Tryz.sizeOf154
 v46:=Tryz.zeroValue154
 t51:=Tryz.underlying196
 a51:=Tryz.isAgg196
 z51:=Tryz.sizeOf196
 v51:=Tryz.zeroValue196
 t53:=Tryz.underlying165
 a53:=Tryz.isAgg165
 z53:=Tryz.sizeOf165
 v53:=Tryz.zeroValue165
 t75:=Tryz.underlying76
 a75:=Tryz.isAgg76
 z75:=Tryz.sizeOf76
 v75:=Tryz.zeroValue76
 t76:=Tryz.underlying77
 a76:=Tryz.isAgg77
 z76:=Tryz.sizeOf77
 v76:=Tryz.zeroValue77
 t85:=Tryz.underlying144
 a85:=Tryz.isAgg144
 z85:=Tryz.sizeOf144
 v85:=Tryz.zeroValue144
 t127:=Tryz.underlying137
 a127:=Tryz.isAgg137
 z127:=Tryz.sizeOf137
 v127:=Tryz.zeroValue137
 t143:=Tryz.underlying188
 a143:=Tryz.isAgg188
 z143:=Tryz.sizeOf188
 v143:=Tryz.zeroValue188
 t145:=Tryz.underlying190
 a145:=Tryz.isAgg190
 z145:=Tryz.sizeOf190
 v145:=Tryz.zeroValue190
 t167:=Tryz.underlying143
 a167:=Tryz.isAgg143
 z167:=Tryz.sizeOf143
 v167:=Tryz.zeroValue143
 t168:=Tryz.underlying146
 a168:=Tryz.isAgg146
 z168:=Tryz.sizeOf146
 v168:=Tryz.zeroValue146
 t171:=Tryz.underlying174
 a171:=Tryz.isAgg174
 z171:=Tryz.sizeOf174
 v171:=Tryz.zeroValue174
 t173:=Tryz.underlying177
 a173:=Tryz.isAgg177
 z173:=Tryz.sizeOf177
 v173:=Tryz.zeroValue177
 t175:=Tryz.underlying166
 a175:=Tryz.isAgg166
 z175:=Tryz.sizeOf166
 v175:=Tryz.zeroValue166
 t210:=Tryz.underlying169
 a210:=Tryz.isAgg169
 z210:=Tryz.sizeOf169
 v210:=Tryz.zeroValue169
 t212:=Tryz.underlying204
 a212:=Tryz.isAgg204
 z212:=Tryz.sizeOf204
 v212:=Tryz.zeroValue204
 t213:=Tryz.underlying205
 a213:=Tryz.isAgg205
 z213:=Tryz.sizeOf205
 t232:=Tryz.underlying220
 a232:=Tryz.isAgg220
 z232:=Tryz.sizeOf220
 v232:=Tryz.zeroValue220
 t233:=Tryz.underlying221
 a233:=Tryz.isAgg221
 z233:=Tryz.sizeOf221
 v233:=Tryz.zeroValue221
 g15:=by kernel_rfl
 g16:=by kernel_rfl
 g17:=by kernel_rfl
 g18:=by kernel_rfl
 g19:=by kernel_rfl
 t80:=Tryz.underlying107
 a80:=Tryz.isAgg107
 z80:=Tryz.sizeOf107
 v80:=Tryz.zeroValue107
 i0:=by kernel_rfl
 i2:=by kernel_rfl
 i3:=by kernel_rfl
 i4:=by kernel_rfl
 i5:=by kernel_rfl
 i9:=by kernel_rfl
 i20:=by kernel_rfl
 i21:=by kernel_rfl
 i37:=by kernel_rfl
 i46:=by kernel_rfl
 i51:=by kernel_rfl
 i53:=by kernel_rfl
 i75:=by kernel_rfl
 i76:=by kernel_rfl
 i80:=by kernel_rfl
 i85:=by kernel_rfl
 i127:=by kernel_rfl
 i143:=by kernel_rfl
 i145:=by kernel_rfl
 i167:=by kernel_rfl
 i168:=by kernel_rfl
 i171:=by kernel_rfl
 i173:=by kernel_rfl
 i175:=by kernel_rfl
 i210:=by kernel_rfl
 i212:=by kernel_rfl
 i232:=by kernel_rfl
 i233:=by kernel_rfl
 m15:=by kernel_rfl
 m16:=by kernel_rfl
 m17:=by kernel_rfl
 m18:=by kernel_rfl
 m19:=by kernel_rfl
 c0:=by kernel_rfl
 c2:=by kernel_rfl
 c3:=by kernel_rfl
 c4:=by kernel_rfl
 c5:=by kernel_rfl
 c9:=by kernel_rfl
 c20:=by kernel_rfl
 c21:=by kernel_rfl
 c37:=by kernel_rfl
 c46:=by kernel_rfl
 c51:=by kernel_rfl
 c53:=by kernel_rfl
 c75:=by kernel_rfl
 c76:=by kernel_rfl
 c80:=by kernel_rfl
 c85:=by kernel_rfl
 c127:=by kernel_rfl
 c143:=by kernel_rfl
 c145:=by kernel_rfl
 c167:=by kernel_rfl
 c168:=by kernel_rfl
 c171:=by kernel_rfl
 c173:=by kernel_rfl
 c175:=by kernel_rfl
 c210:=by kernel_rfl
 c212:=by kernel_rfl
 c213:=by kernel_rfl
 c232:=by kernel_rfl
 c233:=by kernel_rfl}
open Go.RowKit in
theorem Tryz.strconv_Atoi_ok (s:ByteArray)(hmax:s.size≤9223372036854775806)(v:Int)(h:Lib.atoiAll s.data.toList= .ok v)(w:World):
  Calls Tryz.prog 45 #[.string s] w fun e w'=>e= .returned (.tuple #[.int .i64 v,.nilIface])∧(w'=w∨ ∃t,w'=Lib.bytesWorld w 5 t):=Any.strconv_Atoi_ok Tryz.laysC172 s hmax v h w
open Go.RowKit in
theorem Tryz.strconv_Atoi_syntax_var (s:ByteArray)(hlim:s.size≤281474976710656)(h1: ∀v,Lib.atoiAll s.data.toList≠ .ok v)(h2:Lib.atoiAll s.data.toList≠ .range)(tp:TypeId)(p:Value)(w:World)(hvar:w.var? Tryz.prog "strconv.ErrSyntax" =some #[.iface tp p]):
  Calls Tryz.prog 45 #[.string s] w fun e w'=> ∃N,e= .returned (.tuple #[.int .i64 0,.iface 146 (.pointer (some ⟨N,0,none⟩))])∧w.heap.size≤N∧w'.heap[N]? =some (.cells #[.string ⟨#[65,116,111,105]⟩,.string s,.iface tp p] 169 (0,0))∧Below w.heap.size w w':=Any.strconv_Atoi_syntax_var Tryz.laysC172 s hlim (by cases hx:Lib.atoiAll s.data.toList<;>first|rfl|exact absurd hx (h1 _)|exact absurd hx h2) tp p w hvar
open Go.RowKit in
theorem Tryz.strconv_Atoi_range_var (s:ByteArray)(hlim:s.size≤281474976710656)(h:Lib.atoiAll s.data.toList= .range)(tp:TypeId)(p:Value)(w:World)(hvar:w.var? Tryz.prog "strconv.ErrRange" =some #[.iface tp p]):
  Calls Tryz.prog 45 #[.string s] w fun e w'=> ∃N,e= .returned (.tuple #[.int .i64 (Lib.atoiSat s.data.toList),.iface 146 (.pointer (some ⟨N,0,none⟩))])∧w.heap.size≤N∧w'.heap[N]? =some (.cells #[.string ⟨#[65,116,111,105]⟩,.string s,.iface tp p] 169 (0,0))∧Below w.heap.size w w':=Any.strconv_Atoi_range_var Tryz.laysC172 s hlim h tp p w hvar
def Tryz.lays143_ren:Go.Shelf.Ren:=⟨fun|143=>145|219=>140|217=>158|225=>139|224=>138|267=>159|266=>182|314=>183|n=>n,fun|9=>9|3=>3|4=>4|5=>5|46=>154|146=>197|51=>196|n=>n,fun|1=>2|n=>n⟩
theorem Tryz.lays143 : Go.Proofs.Lays.n143 Tryz.prog Tryz.lays143_ren := {
 mixed:=by kernel_rfl
 f143:=Tryz.func145.trans (congrArg some (by kernel_rfl))
 f217:=Tryz.func158.trans (congrArg some (by kernel_rfl))
 f219:=Tryz.func140.trans (congrArg some (by kernel_rfl))
 f224:=Tryz.func138.trans (congrArg some (by kernel_rfl))
 f225:=Tryz.func139.trans (congrArg some (by kernel_rfl))
 f266:=Tryz.func182.trans (congrArg some (by kernel_rfl))
 f267:=Tryz.func159.trans (congrArg some (by kernel_rfl))
 f314:=Tryz.func183.trans (congrArg some (by kernel_rfl))
 t3:=Tryz.underlying3
 a3:=Tryz.isAgg3
 z3:=Tryz.sizeOf3
 v3:=Tryz.zeroValue3
 t4:=Tryz.underlying4
 a4:=Tryz.isAgg4
 z4:=Tryz.sizeOf4
 v4:=Tryz.zeroValue4
 t5:=Tryz.underlying5
 a5:=Tryz.isAgg5
 z5:=Tryz.sizeOf5
 v5:=Tryz.zeroValue5
 t9:=Tryz.underlying9
 a9:=Tryz.isAgg9
 z9:=Tryz.sizeOf9
 v9:=Tryz.zeroValue9
 t46:=Tryz.underlying154
 a46:=Tryz.isAgg154
 z46:=Tryz.sizeOf154
 v46:=Tryz.zeroValue154
 t51:=Tryz.underlying196
 a51:=Tryz.isAgg196
 z51:=Tryz.sizeOf196
 v51:=Tryz.zeroValue196
 t146:=Tryz.underlying197
 a146:=Tryz.isAgg197
 z146:=Tryz.sizeOf197
 v146:=Tryz.zeroValue197
 g1:=by kernel_rfl}
open Go.RowKit Go.Lib in
theorem Tryz.strings_Index (s sub:ByteArray)(m:Int)(w:World)(hs:s.size<4294967281)(hm:w.cell? ⟨2,0,none⟩=some (.int .i64 m)):
  Calls Tryz.prog 145 #[.string s,.string sub] w fun e w'=>e= .returned (.int .i64 (Lib.index s.data.toList sub.data.toList))∧w'=w:=Any.strings_Index Tryz.lays143 s sub m w hs hm
def Tryz.lays144_ren:Go.Shelf.Ren:=⟨fun|144=>115|143=>145|219=>140|217=>158|225=>139|224=>138|267=>159|266=>182|314=>183|n=>n,fun|9=>9|4=>4|3=>3|5=>5|46=>154|146=>197|51=>196|n=>n,fun|1=>2|n=>n⟩
theorem Tryz.lays144 : Go.Proofs.Lays.n144 Tryz.prog Tryz.lays144_ren := {
 mixed:=by kernel_rfl
 f143:=Tryz.func145.trans (congrArg some (by kernel_rfl))
 f144:=Tryz.func115.trans (congrArg some (by kernel_rfl))
 f217:=Tryz.func158.trans (congrArg some (by kernel_rfl))
 f219:=Tryz.func140.trans (congrArg some (by kernel_rfl))
 f224:=Tryz.func138.trans (congrArg some (by kernel_rfl))
 f225:=Tryz.func139.trans (congrArg some (by kernel_rfl))
 f266:=Tryz.func182.trans (congrArg some (by kernel_rfl))
 f267:=Tryz.func159.trans (congrArg some (by kernel_rfl))
 f314:=Tryz.func183.trans (congrArg some (by kernel_rfl))
 t3:=Tryz.underlying3
 a3:=Tryz.isAgg3
 z3:=Tryz.sizeOf3
 v3:=Tryz.zeroValue3
 t4:=Tryz.underlying4
 a4:=Tryz.isAgg4
 z4:=Tryz.sizeOf4
 v4:=Tryz.zeroValue4
 t5:=Tryz.underlying5
 a5:=Tryz.isAgg5
 z5:=Tryz.sizeOf5
 v5:=Tryz.zeroValue5
 t9:=Tryz.underlying9
 a9:=Tryz.isAgg9
 z9:=Tryz.sizeOf9
 v9:=Tryz.zeroValue9
 t46:=Tryz.underlying154
 a46:=Tryz.isAgg154
 z46:=Tryz.sizeOf154
 v46:=Tryz.zeroValue154
 t51:=Tryz.underlying196
 a51:=Tryz.isAgg196
 z51:=Tryz.sizeOf196
 v51:=Tryz.zeroValue196
 t146:=Tryz.underlying197
 a146:=Tryz.isAgg197
 z146:=Tryz.sizeOf197
 v146:=Tryz.zeroValue197
 g1:=by kernel_rfl}
open Go.RowKit Go.Lib in
theorem Tryz.strings_Contains (s sub:ByteArray)(m:Int)(w:World)(hs:s.size<4294967281)(hm:w.cell? ⟨2,0,none⟩=some (.int .i64 m)):
  Calls Tryz.prog 115 #[.string s,.string sub] w fun e w'=>e= .returned (.bool (Lib.contains s.data.toList sub.data.toList))∧w'=w:=Any.strings_Contains Tryz.lays144 s sub m w hs hm
def Tryz.lays145_ren:Go.Shelf.Ren:=⟨fun|145=>61|220=>105|219=>140|217=>158|225=>139|224=>138|267=>159|266=>182|314=>183|n=>n,fun|9=>9|4=>4|59=>92|3=>3|5=>5|46=>154|146=>197|51=>196|n=>n,fun|1=>2|n=>n⟩
theorem Tryz.lays145 : Go.Proofs.Lays.n145 Tryz.prog Tryz.lays145_ren := {
 mixed:=by kernel_rfl
 f145:=Tryz.func61.trans (congrArg some (by kernel_rfl))
 f217:=Tryz.func158.trans (congrArg some (by kernel_rfl))
 f219:=Tryz.func140.trans (congrArg some (by kernel_rfl))
 f220:=Tryz.func105.trans (congrArg some (by kernel_rfl))
 f224:=Tryz.func138.trans (congrArg some (by kernel_rfl))
 f225:=Tryz.func139.trans (congrArg some (by kernel_rfl))
 f266:=Tryz.func182.trans (congrArg some (by kernel_rfl))
 f267:=Tryz.func159.trans (congrArg some (by kernel_rfl))
 f314:=Tryz.func183.trans (congrArg some (by kernel_rfl))
 t3:=Tryz.underlying3
 a3:=Tryz.isAgg3
 z3:=Tryz.sizeOf3
 v3:=Tryz.zeroValue3
 t4:=Tryz.underlying4
 a4:=Tryz.isAgg4
 z4:=Tryz.sizeOf4
 v4:=Tryz.zeroValue4
 t5:=Tryz.underlying5
 a5:=Tryz.isAgg5
 z5:=Tryz.sizeOf5
 v5:=Tryz.zeroValue5
 t9:=Tryz.underlying9
 a9:=Tryz.isAgg9
 z9:=Tryz.sizeOf9
 v9:=Tryz.zeroValue9
 t46:=Tryz.underlying154
 a46:=Tryz.isAgg154
 z46:=Tryz.sizeOf154
 v46:=Tryz.zeroValue154
 t51:=Tryz.underlying196
 a51:=Tryz.isAgg196
 z51:=Tryz.sizeOf196
 v51:=Tryz.zeroValue196
 t59:=Tryz.underlying92
 a59:=Tryz.isAgg92
 z59:=Tryz.sizeOf92
 v59:=Tryz.zeroValue92
 t146:=Tryz.underlying197
 a146:=Tryz.isAgg197
 z146:=Tryz.sizeOf197
 v146:=Tryz.zeroValue197
 g1:=by kernel_rfl}
open Go.RowKit Go.Lib in
theorem Tryz.strings_Cut (s sep:ByteArray)(m:Int)(w:World)(hs:s.size<4294967281)(hm:w.cell? ⟨2,0,none⟩=some (.int .i64 m)):
  Calls Tryz.prog 61 #[.string s,.string sep] w fun e w'=>e= .returned (.tuple #[.string ⟨(Lib.cut s.data.toList sep.data.toList).1.toArray⟩,.string ⟨(Lib.cut s.data.toList sep.data.toList).2.1.toArray⟩,.bool (Lib.cut s.data.toList sep.data.toList).2.2])∧ ∃n,w'=w.drewN n:=Any.strings_Cut Tryz.lays145 s sep m w hs hm
def Tryz.laysGw17_ren:Go.Shelf.Ren:=⟨fun|17=>43|15=>87|20=>123|n=>n,fun|9=>9|23=>74|4=>4|3=>3|0=>0|21=>21|n=>n,fun|n=>n⟩
theorem Tryz.laysGw17 : Go.Proofs.LaysGw.n17 Tryz.prog Tryz.laysGw17_ren := {
 mixed:=by kernel_rfl
 f15:=Tryz.func87.trans (congrArg some (by kernel_rfl))
 f17:=Tryz.func43.trans (congrArg some (by kernel_rfl))
 f20:=Tryz.func123.trans (congrArg some (by kernel_rfl))
 t0:=Tryz.underlying0
 a0:=Tryz.isAgg0
 z0:=Tryz.sizeOf0
 v0:=Tryz.zeroValue0
 i0:=by kernel_rfl
 t3:=Tryz.underlying3
 a3:=Tryz.isAgg3
 z3:=Tryz.sizeOf3
 v3:=Tryz.zeroValue3
 i3:=by kernel_rfl
 t4:=Tryz.underlying4
 a4:=Tryz.isAgg4
 z4:=Tryz.sizeOf4
 v4:=Tryz.zeroValue4
 i4:=by kernel_rfl
 t9:=Tryz.underlying9
 a9:=Tryz.isAgg9
 z9:=Tryz.sizeOf9
 v9:=Tryz.zeroValue9
 i9:=by kernel_rfl
 t21:=Tryz.underlying21
 a21:=Tryz.isAgg21
 z21:=Tryz.sizeOf21
 v21:=Tryz.zeroValue21
 i21:=by kernel_rfl
 t23:=Tryz.underlying74
 a23:=Tryz.isAgg74
 z23:=Tryz.sizeOf74
 v23:=Tryz.zeroValue74
 i23:=by kernel_rfl}
def Tryz.lays99_ren:Go.Shelf.Ren:=⟨fun|99=>195|206=>203|n=>n,fun|9=>9|4=>4|3=>3|n=>n,fun|n=>n⟩
theorem Tryz.lays99 : Go.Proofs.Lays.n99 Tryz.prog Tryz.lays99_ren := {
 mixed:=by kernel_rfl
 f99:=Tryz.func195.trans (congrArg some (by kernel_rfl))
 f206:=Tryz.func203.trans (congrArg some (by kernel_rfl))
 t3:=Tryz.underlying3
 a3:=Tryz.isAgg3
 z3:=Tryz.sizeOf3
 v3:=Tryz.zeroValue3
 t4:=Tryz.underlying4
 a4:=Tryz.isAgg4
 z4:=Tryz.sizeOf4
 v4:=Tryz.zeroValue4
 t9:=Tryz.underlying9
 a9:=Tryz.isAgg9
 z9:=Tryz.sizeOf9
 v9:=Tryz.zeroValue9}
open Go.RowKit Go.Lib in
theorem Tryz.strings_HasPrefix (s p:ByteArray)(w:World):
  Calls Tryz.prog 195 #[.string s,.string p] w fun e w'=>e= .returned (.bool (Lib.hasPrefix s.data.toList p.data.toList))∧w'=w:=Any.strings_HasPrefix Tryz.lays99 s p w
def Tryz.lays101_ren:Go.Shelf.Ren:=⟨fun|101=>194|208=>202|206=>203|n=>n,fun|9=>9|4=>4|3=>3|n=>n,fun|n=>n⟩
theorem Tryz.lays101 : Go.Proofs.Lays.n101 Tryz.prog Tryz.lays101_ren := {
 mixed:=by kernel_rfl
 f101:=Tryz.func194.trans (congrArg some (by kernel_rfl))
 f206:=Tryz.func203.trans (congrArg some (by kernel_rfl))
 f208:=Tryz.func202.trans (congrArg some (by kernel_rfl))
 t3:=Tryz.underlying3
 a3:=Tryz.isAgg3
 z3:=Tryz.sizeOf3
 v3:=Tryz.zeroValue3
 t4:=Tryz.underlying4
 a4:=Tryz.isAgg4
 z4:=Tryz.sizeOf4
 v4:=Tryz.zeroValue4
 t9:=Tryz.underlying9
 a9:=Tryz.isAgg9
 z9:=Tryz.sizeOf9
 v9:=Tryz.zeroValue9}
open Go.RowKit Go.Lib in
theorem Tryz.strings_TrimPrefix (s p:ByteArray)(w:World):
  Calls Tryz.prog 194 #[.string s,.string p] w fun e w'=>e= .returned (.string ⟨(Lib.trimPrefix s.data.toList p.data.toList).toArray⟩)∧w'=w:=Any.strings_TrimPrefix Tryz.lays101 s p w
def Tryz.lays155_ren:Go.Shelf.Ren:=⟨fun|155=>84|154=>121|138=>149|165=>129|143=>145|166=>75|197=>141|169=>77|195=>175|218=>176|240=>116|241=>153|219=>140|260=>160|276=>146|277=>179|217=>158|225=>139|224=>138|267=>159|266=>182|314=>183|n=>n,fun|9=>9|3=>3|4=>4|72=>103|0=>0|76=>77|105=>155|21=>21|5=>5|70=>100|20=>20|37=>101|75=>76|127=>137|164=>159|46=>154|119=>199|139=>202|138=>201|146=>197|51=>196|80=>107|n=>n,fun|1=>2|3=>4|4=>5|n=>n⟩
theorem Tryz.lays155 : Go.Proofs.Lays.n155 Tryz.prog Tryz.lays155_ren := {
 mixed:=by kernel_rfl
 f138:=Tryz.func149.trans (congrArg some (by kernel_rfl))
 f143:=Tryz.func145.trans (congrArg some (by kernel_rfl))
 f154:=Tryz.func121.trans (congrArg some (by kernel_rfl))
 f155:=Tryz.func84.trans (congrArg some (by kernel_rfl))
 f165:=Tryz.func129.trans (congrArg some (by kernel_rfl))
 f166:=Tryz.func75.trans (congrArg some (by kernel_rfl))
 f169:=Tryz.func77.trans (congrArg some (by kernel_rfl))
 f195:=Tryz.func175.trans (congrArg some (by kernel_rfl))
 f197:=Tryz.func141.trans (congrArg some (by kernel_rfl))
 f217:=Tryz.func158.trans (congrArg some (by kernel_rfl))
 f218:=Tryz.func176.trans (congrArg some (by kernel_rfl))
 f219:=Tryz.func140.trans (congrArg some (by kernel_rfl))
 f224:=Tryz.func138.trans (congrArg some (by kernel_rfl))
 f225:=Tryz.func139.trans (congrArg some (by kernel_rfl))
 f240:=Tryz.func116.trans (congrArg some (by kernel_rfl))
 f241:=Tryz.func153.trans (congrArg some (by kernel_rfl))
 f260:=Tryz.func160.trans (congrArg some (by kernel_rfl))
 f266:=Tryz.func182.trans (congrArg some (by kernel_rfl))
 f267:=Tryz.func159.trans (congrArg some (by kernel_rfl))
 f276:=Tryz.func146.trans (congrArg some (by kernel_rfl))
 f277:=Tryz.func179.trans (congrArg some (by kernel_rfl))
 f314:=Tryz.func183.trans (congrArg some (by kernel_rfl))
 t0:=Tryz.underlying0
 a0:=Tryz.isAgg0
 z0:=Tryz.sizeOf0
 v0:=Tryz.zeroValue0
 t3:=Tryz.underlying3
 a3:=Tryz.isAgg3
 z3:=Tryz.sizeOf3
 v3:=Tryz.zeroValue3
 t4:=Tryz.underlying4
 a4:=Tryz.isAgg4
 z4:=Tryz.sizeOf4
 v4:=Tryz.zeroValue4
 t5:=Tryz.underlying5
 a5:=Tryz.isAgg5
 z5:=Tryz.sizeOf5
 v5:=Tryz.zeroValue5
 t9:=Tryz.underlying9
 a9:=Tryz.isAgg9
 z9:=Tryz.sizeOf9
 v9:=Tryz.zeroValue9
 t20:=Tryz.underlying20
 a20:=Tryz.isAgg20
 z20:=Tryz.sizeOf20
 v20:=Tryz.zeroValue20
 t21:=Tryz.underlying21
 a21:=Tryz.isAgg21
 z21:=Tryz.sizeOf21
 v21:=Tryz.zeroValue21
 t37:=Tryz.underlying101
 a37:=Tryz.isAgg101
 z37:=Tryz.sizeOf101
 v37:=Tryz.zeroValue101
 t46:=Tryz.underlying154
 a46:=Tryz.isAgg154
 z46:=Tryz.sizeOf154
 v46:=Tryz.zeroValue154
 t51:=Tryz.underlying196
 a51:=Tryz.isAgg196
 z51:=Tryz.sizeOf196
 v51:=Tryz.zeroValue196
 t70:=Tryz.underlying100
 a70:=Tryz.isAgg100
 z70:=Tryz.sizeOf100
 v70:=Tryz.zeroValue100
 t72:=Tryz.underlying103
 a72:=Tryz.isAgg103
 z72:=Tryz.sizeOf103
 v72:=Tryz.zeroValue103
 t75:=Tryz.underlying76
 a75:=Tryz.isAgg76
 z75:=Tryz.sizeOf76
 v75:=Tryz.zeroValue76
 t76:=Tryz.underlying77
 a76:=Tryz.isAgg77
 z76:=Tryz.sizeOf77
 v76:=Tryz.zeroValue77
 t105:=Tryz.underlying155
 a105:=Tryz.isAgg155
 z105:=Tryz.sizeOf155
 v105:=Tryz.zeroValue155
 t119:=Tryz.underlying199
 a119:=Tryz.isAgg199
 z119:=Tryz.sizeOf199
 t127:=Tryz.underlying137
 a127:=Tryz.isAgg137
 z127:=Tryz.sizeOf137
 v127:=Tryz.zeroValue137
 t138:=Tryz.underlying201
 a138:=Tryz.isAgg201
 z138:=Tryz.sizeOf201
 v138:=Tryz.zeroValue201
 t139:=Tryz.underlying202
 a139:=Tryz.isAgg202
 z139:=Tryz.sizeOf202
 v139:=Tryz.zeroValue202
 t146:=Tryz.underlying197
 a146:=Tryz.isAgg197
 z146:=Tryz.sizeOf197
 v146:=Tryz.zeroValue197
 t164:=Tryz.underlying159
 a164:=Tryz.isAgg159
 z164:=Tryz.sizeOf159
 v164:=Tryz.zeroValue159
 g1:=by kernel_rfl
 g3:=by kernel_rfl
 g4:=by kernel_rfl}
theorem Tryz.Builder_Extra_155 : Builder.Extra Tryz.prog Tryz.lays155_ren := {
 sizeBuilder:=by kernel_rfl
 liesBuilder:=by kernel_rfl
 t5:=Tryz.underlying5
 a5:=Tryz.isAgg5
 z5:=Tryz.sizeOf5
 v5:=Tryz.zeroValue5
 infoByte:=by kernel_rfl
 cellsByte:=by kernel_rfl
 sizeByte:=by kernel_rfl
 neB5:=by decide}
open Go.RowKit Go.Lib in
theorem Tryz.strings_ReplaceAll (s old new:ByteArray)(m:Int)(w:World)(hs:s.size<4294967281)(hm:w.cell? ⟨2,0,none⟩=some (.int .i64 m))(h1:1≤old.size)(hlen:s.size+Lib.countB s old*new.size≤140737488355328):
  Calls Tryz.prog 84 #[.string s,.string old,.string new] w fun e w'=>
   e= .returned (.string ⟨(Lib.replaceAll s.data.toList old.data.toList new.data.toList).toArray⟩)∧Below w.heap.size w w':=Any.strings_ReplaceAll Tryz.lays155 Tryz.Builder_Extra_155 s old new m w hs hm h1 hlen
def Tryz.lays153_ren:Go.Shelf.Ren:=⟨fun|153=>60|152=>101|226=>102|227=>103|228=>104|137=>136|119=>137|224=>138|225=>139|217=>158|266=>182|n=>n,fun|9=>9|3=>3|4=>4|5=>5|21=>21|117=>131|116=>130|0=>0|46=>154|124=>135|n=>n,fun|n=>n⟩
theorem Tryz.lays153 : Go.Proofs.Lays.n153 Tryz.prog Tryz.lays153_ren := {
 mixed:=by kernel_rfl
 f119:=Tryz.func137.trans (congrArg some (by kernel_rfl))
 f137:=Tryz.func136.trans (congrArg some (by kernel_rfl))
 f152:=Tryz.func101.trans (congrArg some (by kernel_rfl))
 f153:=Tryz.func60.trans (congrArg some (by kernel_rfl))
 f217:=Tryz.func158.trans (congrArg some (by kernel_rfl))
 f224:=Tryz.func138.trans (congrArg some (by kernel_rfl))
 f225:=Tryz.func139.trans (congrArg some (by kernel_rfl))
 f226:=Tryz.func102.trans (congrArg some (by kernel_rfl))
 f227:=Tryz.func103.trans (congrArg some (by kernel_rfl))
 f228:=Tryz.func104.trans (congrArg some (by kernel_rfl))
 f266:=Tryz.func182.trans (congrArg some (by kernel_rfl))
 t0:=Tryz.underlying0
 a0:=Tryz.isAgg0
 z0:=Tryz.sizeOf0
 v0:=Tryz.zeroValue0
 t3:=Tryz.underlying3
 a3:=Tryz.isAgg3
 z3:=Tryz.sizeOf3
 v3:=Tryz.zeroValue3
 t4:=Tryz.underlying4
 a4:=Tryz.isAgg4
 z4:=Tryz.sizeOf4
 v4:=Tryz.zeroValue4
 t5:=Tryz.underlying5
 a5:=Tryz.isAgg5
 z5:=Tryz.sizeOf5
 v5:=Tryz.zeroValue5
 t9:=Tryz.underlying9
 a9:=Tryz.isAgg9
 z9:=Tryz.sizeOf9
 v9:=Tryz.zeroValue9
 t21:=Tryz.underlying21
 a21:=Tryz.isAgg21
 z21:=Tryz.sizeOf21
 v21:=Tryz.zeroValue21
 t46:=Tryz.underlying154
 a46:=Tryz.isAgg154
 z46:=Tryz.sizeOf154
 v46:=Tryz.zeroValue154
 t116:=Tryz.underlying130
 a116:=Tryz.isAgg130
 z116:=Tryz.sizeOf130
 t117:=Tryz.underlying131
 a117:=Tryz.isAgg131
 z117:=Tryz.sizeOf131
 v117:=Tryz.zeroValue131
 t124:=Tryz.underlying135
 a124:=Tryz.isAgg135
 z124:=Tryz.sizeOf135
 v124:=Tryz.zeroValue135}
open Go.RowKit Go.Lib in
theorem Tryz.strings_IndexAny_laid (s chars:ByteArray)(w:World)(hs:s.size<4294967281)(hcs:chars.size<4294967281)(has: ∀(j:Nat) b,s.data.toList[j]? =some b→b.toNat<128)(hac: ∀(j:Nat) b,chars.data.toList[j]? =some b→b.toNat<128):
  Calls Tryz.prog 60 #[.string s,.string chars] w fun e w'=>e= .returned (.int .i64 (Lib.indexAny s.data.toList chars.data.toList))∧Below w.heap.size w w':=Any.strings_IndexAny_laid Tryz.lays153 (by kernel_rfl) s chars w hs hcs has hac
open Go.RowKit Go.Lib in
theorem Tryz.strings_ToUpper_any (s:ByteArray)(w:World)(hs:s.size<35184372088832)(hV:CaseVar 3 caseA w)(hT:Lib.Utf8Tabs 4 5 w):
  Calls Tryz.prog 91 #[.string s] w fun e w'=>e= .returned (.string ⟨(Lib.toUpperD s.data.toList).toArray⟩)∧Below w.heap.size w w':=Any.strings_ToUpper_any Tryz.lays158 Tryz.Builder_Extra_158 s w hs hV hT
open Go.RowKit Go.Lib in
theorem Tryz.strings_ContainsFunc_grows (g:Nat)(lb:Array Value)(eg: ∀args w,(callFunc g args).run Tryz.prog w= .ok (.enter g args) w)(p:Nat→Bool)(s:ByteArray)(w:World)(hp:PredGrows Tryz.prog g lb p w):
  Calls Tryz.prog 43 #[.string s,.func (.func g) #[] lb] w fun e w'=>e= .returned (.bool (decide (0≤Lib.idxFunc p true s)))∧Below w.heap.size w w':=Any.strings_ContainsFunc_grows Tryz.laysGw17 g lb eg p s w hp
end Go.Proofs
set_option linter.unusedVariables false
set_option linter.unusedSimpArgs false
set_option maxRecDepth 100000
namespace Go.Abs
open Go Go.Proofs Go.RowKit
structure Base (W0:World):Prop where
 max: ∃m:Int,W0.cell? ⟨2,0,none⟩=some (.int .i64 m)
 case:Lib.CaseVar 3 Lib.caseA W0
 utf8:Lib.Utf8Tabs 4 5 W0
 pow:Lib.TabIs Tryz.prog W0 "internal/strconv.uint64pow10" .u64 Lib.pow10Tab
 esyn: ∃tp p,World.var? Tryz.prog W0 "strconv.ErrSyntax" =some #[.iface tp p]
 erng: ∃tp p,World.var? Tryz.prog W0 "strconv.ErrRange" =some #[.iface tp p]
section
variable {W0 w:World}
theorem eP (h: ∀b,b<W0.heap.size→w.heap[b]? =W0.heap[b]?){p:Addr}{v:Value}(hc:W0.cell? p=some v):w.cell? p=some v:=by
 have hp:=EG hc
 rw[←hc]
 unfold World.cell?
 rw[h _ hp]
theorem wb (h: ∀b,b<W0.heap.size→w.heap[b]? =W0.heap[b]?){n:String}{v:Array Value}(hv:World.var? Tryz.prog W0 n=some v):World.var? Tryz.prog w n=some v:=by
 rw[←hv]
 unfold World.var? at hv ⊢
 cases hg:Tryz.prog.globalNamed n with
 |none=>rfl
 |some g=>
  rw[hg]at hv
  simp only[Option.bind_some]at hv ⊢
  have hlt:g<W0.heap.size:=by
   rcases Nat.lt_or_ge g W0.heap.size with h1|h1
   ·exact h1
   ·rw[Array.getElem?_eq_none h1]at hv;simp at hv
  rw[h g hlt]
theorem Base.kept (B:Base W0)(h: ∀b,b<W0.heap.size→w.heap[b]? =W0.heap[b]?):Base w:=by
 obtain⟨m,hm⟩:=B.max
 obtain⟨R,oR,cap,h1,h2⟩:=B.case
 obtain⟨t1,p1,e1⟩:=B.esyn
 obtain⟨t2,p2,e2⟩:=B.erng
 refine⟨⟨m,eP h hm⟩,⟨R,oR,cap,eP h h1,fun i hi=> ?_⟩,⟨fun c hc=>eP h (B.utf8.1 c hc),fun i hi=>⟨eP h (B.utf8.2 i hi).1,eP h (B.utf8.2 i hi).2⟩⟩,wb h B.pow,⟨t1,p1,wb h e1⟩,⟨t2,p2,wb h e2⟩⟩
 obtain⟨a,b,c,d,e⟩:=h2 i hi
 exact⟨eP h a,eP h b,eP h c,eP h d,eP h e⟩
theorem gk {x:LV}{s:List UInt8}(h:aL x=some s):x=LV.str s:=by
 unfold aL at h
 split at h
 ·rename_i b
  injection h with h
  subst h
  rfl
 ·cases h
theorem Hp {k:IntKind}{x:LV}{n:Int}(h:aF k x=some n):x=LV.int k n:=by
 unfold aF at h
 split at h
 ·rename_i k' m
  by_cases hk:k=k'
  ·subst hk
   simp at h
   subst h
   rfl
  ·simp[hk]at h
 ·cases h
theorem bA {α β:Type}{x:Option α}{f:α→Option β}{r:β}(h:opt x f=some r): ∃a,x=some a∧f a=some r:=by
 cases x with
 |none=>cases h
 |some a=>exact⟨a,rfl,h⟩
theorem dT {α:Type}{l:List α}{q:α×List α}(h:aA l=some q):l=q.1::q.2:=by
 cases l with
 |nil=>cases h
 |cons a r=>injection h with h;subst h;rfl
theorem gl {α:Type}{l:List α}{u:Unit}(h:aO l=some u):l=[]:=by
 cases l with
 |nil=>rfl
 |cons a r=>cases h
theorem dF {β:Type}{b:Bool}{k:Option β}{r:β}(h:aB b k=some r):b=true∧k=some r:=by
 cases b with
 |false=>cases h
 |true=>exact⟨rfl,h⟩
theorem zm {g:List UInt8→Option LV}{args:List LV}{μ:Mu}{out:Out}(h:tF g args μ=some out): ∃s v,args=[LV.str s]∧g s=some v∧out= .ret v μ:=by
 unfold tF at h
 obtain⟨q,hq,h⟩:=bA h
 obtain⟨u,hu,h⟩:=bA h
 obtain⟨s,hs,h⟩:=bA h
 obtain⟨v,hv,h⟩:=bA h
 injection h with h
 refine⟨s,v,?_,hv,h.symm⟩
 rw[dT hq,gl hu,gk hs]
theorem gf {g:List UInt8→List UInt8→Option LV}{args:List LV}{μ:Mu}{out:Out}(h:fM g args μ=some out): ∃s t v,args=[LV.str s,LV.str t]∧g s t=some v∧out= .ret v μ:=by
 unfold fM at h
 obtain⟨q,hq,h⟩:=bA h
 obtain⟨r,hr,h⟩:=bA h
 obtain⟨u,hu,h⟩:=bA h
 obtain⟨s,hs,h⟩:=bA h
 obtain⟨t,ht,h⟩:=bA h
 obtain⟨v,hv,h⟩:=bA h
 injection h with h
 refine⟨s,t,v,?_,hv,h.symm⟩
 rw[dT hq,dT hr,gl hu,gk hs,gk ht]
theorem Mq {g:List UInt8→List UInt8→List UInt8→Option LV}{args:List LV}{μ:Mu}{out:Out}(h:Al g args μ=some out): ∃s t z v,args=[LV.str s,LV.str t,LV.str z]∧g s t z=some v∧out= .ret v μ:=by
 unfold Al at h
 obtain⟨q,hq,h⟩:=bA h
 obtain⟨r,hr,h⟩:=bA h
 obtain⟨x,hx,h⟩:=bA h
 obtain⟨u,hu,h⟩:=bA h
 obtain⟨s,hs,h⟩:=bA h
 obtain⟨t,ht,h⟩:=bA h
 obtain⟨z,hz,h⟩:=bA h
 obtain⟨v,hv,h⟩:=bA h
 injection h with h
 refine⟨s,t,z,v,?_,hv,h.symm⟩
 rw[dT hq,dT hr,dT hx,gl hu,gk hs,gk ht,gk hz]
theorem c6 {f:FuncId}{fn:Func}(h:Tryz.prog.funcs[f]? =some fn)(h2:fn.body.isSome=true)(h3:(fn.name == "runtime.NumGoroutine")=false): ∃fn c,E.P.funcs[f]? =some fn∧fn.body=some c∧(fn.name == "runtime.NumGoroutine")=false:=by
 obtain⟨c,hc⟩:=Option.isSome_iff_exists.1 h2
 exact⟨fn,c,h,hc,h3⟩
variable {μ:Mu}
theorem eR {f:FuncId}{vals:List Value}{r:Value}(hf: ∃fn c,E.P.funcs[f]? =some fn∧fn.body=some c∧(fn.name == "runtime.NumGoroutine")=false)(B:Base W0)
  (hc: ∀w:World,Base w→Calls Tryz.prog f vals.toArray w fun e w'=>e= .returned r∧Below w.heap.size w w'):
  cG E.P W0 f (vals.map fun v=>LV.cv (.v v)) μ (.ret (.cv (.v r)) μ):=
 HG hf fun w h1 h2=>hc w (B.kept h2)
theorem yE {G:Gh}{L:Nat}: ∀(rs:List Value),bV G w L 0 (rs.map fun v=>LV.cv (.v v)) rs
 |[]=>rfl
 |r::rs=>by
  exact⟨r,rs,rfl,rfl,rfl,yE rs⟩
theorem zb {f:FuncId}{vals rs:List Value}(hf: ∃fn c,E.P.funcs[f]? =some fn∧fn.body=some c∧(fn.name == "runtime.NumGoroutine")=false)(B:Base W0)
  (hc: ∀w:World,Base w→Calls Tryz.prog f vals.toArray w fun e w'=>e= .returned (.tuple rs.toArray)∧Below w.heap.size w w'):
  cG E.P W0 f (vals.map fun v=>LV.cv (.v v)) μ (.ret (.ltup (rs.map fun v=>LV.cv (.v v))) μ):=by
 refine j9 hf fun G w cargs hs hv h1 h2=> ?_
 rw[tu hs hv]
 refine(hc w (B.kept h2)).mono fun e w' ⟨h3,h4⟩=>⟨_,h3,h4,⟨rs.toArray,rfl,yE rs⟩,fun b h=>by simp[aE]at h⟩
theorem iH {w':World}(h:w'=w):Below w.heap.size w w':=by subst h;exact Below.refl _ _
theorem tX (n:Nat):Below w.heap.size w (w.drewN n):=⟨rfl,rfl,rfl,Nat.le_refl _,fun _ _=>rfl⟩
theorem ek {s:List UInt8}(h:dA s=true):(⟨⟨s⟩⟩:ByteArray).size≤1000000:=by
 unfold dA at h
 exact of_decide_eq_true h
theorem I7 (B:Base W0){args:List LV}{out:Out}(h:qy args μ=some out):cG E.P W0 91 args μ out:=by
 obtain⟨s,v,rfl,hg,rfl⟩:=zm h
 obtain⟨h1,h2⟩:=dF hg
 injection h2 with h2
 subst h2
 have hl:=ek h1
 exact eR (vals:=[.string ⟨⟨s⟩⟩]) (c6 Tryz.func91 rfl (by kernel_rfl)) B fun w b=>Tryz.strings_ToUpper_any ⟨⟨s⟩⟩ w (by omega) b.case b.utf8
theorem Cc (B:Base W0){args:List LV}{out:Out}(h:ml args μ=some out):cG E.P W0 195 args μ out:=by
 obtain⟨s,t,v,rfl,hg,rfl⟩:=gf h
 injection hg with hg
 subst hg
 exact eR (vals:=[.string ⟨⟨s⟩⟩,.string ⟨⟨t⟩⟩]) (c6 Tryz.func195 rfl (by kernel_rfl)) B fun w b=>(Tryz.strings_HasPrefix ⟨⟨s⟩⟩ ⟨⟨t⟩⟩ w).mono fun e w' ⟨h1,h2⟩=>⟨h1,iH h2⟩
theorem zL (B:Base W0){args:List LV}{out:Out}(h:li args μ=some out):cG E.P W0 194 args μ out:=by
 obtain⟨s,t,v,rfl,hg,rfl⟩:=gf h
 injection hg with hg
 subst hg
 exact eR (vals:=[.string ⟨⟨s⟩⟩,.string ⟨⟨t⟩⟩]) (c6 Tryz.func194 rfl (by kernel_rfl)) B fun w b=>(Tryz.strings_TrimPrefix ⟨⟨s⟩⟩ ⟨⟨t⟩⟩ w).mono fun e w' ⟨h1,h2⟩=>⟨h1,iH h2⟩
theorem Ce {t:List UInt8}{c:UInt8}(h:yw t=some c):t=[c]:=by
 unfold yw at h
 split at h
 ·injection h with h;subst h;rfl
 ·cases h
theorem Ec (B:Base W0){args:List LV}{out:Out}(h:nQ args μ=some out):cG E.P W0 62 args μ out:=by
 obtain⟨s,t,v,rfl,hg,rfl⟩:=gf h
 obtain⟨c,hc,hg⟩:=bA hg
 obtain⟨h1,h2⟩:=dF hg
 injection h2 with h2
 subst h2
 have:=Ce hc
 subst this
 exact eR (vals:=[.string ⟨⟨s⟩⟩,.string ⟨⟨[c]⟩⟩]) (c6 Tryz.func62 rfl (by kernel_rfl)) B fun w b=>(Tryz.strings_TrimLeft_one ⟨⟨s⟩⟩ c (of_decide_eq_true h1) w).mono fun e w' ⟨h1,h2⟩=>⟨h1,iH h2⟩
theorem Cd (B:Base W0){args:List LV}{out:Out}(h:mm args μ=some out):cG E.P W0 63 args μ out:=by
 obtain⟨s,t,v,rfl,hg,rfl⟩:=gf h
 obtain⟨c,hc,hg⟩:=bA hg
 obtain⟨h1,h2⟩:=dF hg
 injection h2 with h2
 subst h2
 have:=Ce hc
 subst this
 rw[Bool.and_eq_true]at h1
 have hl:=ek h1.2
 exact eR (vals:=[.string ⟨⟨s⟩⟩,.string ⟨⟨[c]⟩⟩]) (c6 Tryz.func63 rfl (by kernel_rfl)) B fun w b=>(Tryz.strings_TrimRight_one ⟨⟨s⟩⟩ c (of_decide_eq_true h1.1) w (by omega)).mono fun e w' ⟨h1,h2⟩=>⟨h1,iH h2⟩
theorem Oy (B:Base W0){args:List LV}{out:Out}(h:xg args μ=some out):cG E.P W0 145 args μ out:=by
 obtain⟨s,t,v,rfl,hg,rfl⟩:=gf h
 obtain⟨h1,h2⟩:=dF hg
 injection h2 with h2
 subst h2
 have hl:=ek h1
 refine eR (vals:=[.string ⟨⟨s⟩⟩,.string ⟨⟨t⟩⟩]) (c6 Tryz.func145 rfl (by kernel_rfl)) B fun w b=> ?_
 obtain⟨m,hm⟩:=b.max
 exact(Tryz.strings_Index ⟨⟨s⟩⟩ ⟨⟨t⟩⟩ m w (by omega) hm).mono fun e w' ⟨h1,h2⟩=>⟨h1,iH h2⟩
theorem Ea (B:Base W0){args:List LV}{out:Out}(h:nP args μ=some out):cG E.P W0 115 args μ out:=by
 obtain⟨s,t,v,rfl,hg,rfl⟩:=gf h
 obtain⟨h1,h2⟩:=dF hg
 injection h2 with h2
 subst h2
 have hl:=ek h1
 refine eR (vals:=[.string ⟨⟨s⟩⟩,.string ⟨⟨t⟩⟩]) (c6 Tryz.func115 rfl (by kernel_rfl)) B fun w b=> ?_
 obtain⟨m,hm⟩:=b.max
 exact(Tryz.strings_Contains ⟨⟨s⟩⟩ ⟨⟨t⟩⟩ m w (by omega) hm).mono fun e w' ⟨h1,h2⟩=>⟨h1,iH h2⟩
theorem SX (B:Base W0){args:List LV}{out:Out}(h:S2 args μ=some out):cG E.P W0 61 args μ out:=by
 obtain⟨s,t,v,rfl,hg,rfl⟩:=gf h
 obtain⟨h1,h2⟩:=dF hg
 injection h2 with h2
 subst h2
 have hl:=ek h1
 refine zb (vals:=[.string ⟨⟨s⟩⟩,.string ⟨⟨t⟩⟩]) (rs:=[.string ⟨⟨(Lib.cut s t).1⟩⟩,.string ⟨⟨(Lib.cut s t).2.1⟩⟩,.bool (Lib.cut s t).2.2]) (c6 Tryz.func61 rfl (by kernel_rfl)) B fun w b=> ?_
 obtain⟨m,hm⟩:=b.max
 refine(Tryz.strings_Cut ⟨⟨s⟩⟩ ⟨⟨t⟩⟩ m w (by omega) hm).mono fun e w' ⟨h1,n,h2⟩=>⟨h1,?_⟩
 subst h2
 exact tX n
theorem Eb (B:Base W0){args:List LV}{out:Out}(h:zk args μ=some out):cG E.P W0 60 args μ out:=by
 obtain⟨s,t,v,rfl,hg,rfl⟩:=gf h
 obtain⟨h1,h2⟩:=dF hg
 injection h2 with h2
 subst h2
 simp only[Bool.and_eq_true]at h1
 obtain⟨⟨⟨a1,a2⟩,a3⟩,a4⟩:=h1
 have hl:=ek a1
 have hl2:=ek a2
 have asc: ∀{l:List UInt8},wv l=true→ ∀(j:Nat) (b:UInt8),l[j]? =some b→b.toNat<128:=by
  intro l hl j b hb
  unfold wv at hl
  rw[List.all_eq_true]at hl
  exact of_decide_eq_true (hl b (List.mem_of_getElem? hb))
 exact eR (vals:=[.string ⟨⟨s⟩⟩,.string ⟨⟨t⟩⟩]) (c6 Tryz.func60 rfl (by kernel_rfl)) B fun w b=>Tryz.strings_IndexAny_laid ⟨⟨s⟩⟩ ⟨⟨t⟩⟩ w (by omega) (by omega) (asc a3) (asc a4)
theorem Rh (B:Base W0){args:List LV}{out:Out}(h:xh args μ=some out):cG E.P W0 66 args μ out:=by
 unfold xh at h
 obtain⟨q,hq,h⟩:=bA h
 obtain⟨u,hu,h⟩:=bA h
 obtain⟨n,hn,h⟩:=bA h
 obtain⟨h1,h2⟩:=dF h
 injection h2 with h2
 subst h2
 have hx:q.1=LV.int .i64 n:=by
  exact Hp hn
 rw[dT hq,gl hu,hx]
 rw[Bool.and_eq_true]at h1
 refine eR (vals:=[.int .i64 n]) (c6 Tryz.func66 rfl (by kernel_rfl)) B fun w b=> ?_
 refine(Tryz.strconv_Itoa n (of_decide_eq_true h1.1) (of_decide_eq_true h1.2) w b.pow).mono fun e w' ⟨h3,k,os,h4⟩=>⟨h3,?_⟩
 subst h4
 have h5:Below w.heap.size w (w.drewN k):=tX k
 refine Below.trans h5 ⟨rfl,rfl,rfl,by simp[«Sort».grow],fun j hj=> ?_⟩
 have:j<(w.drewN k).heap.size:=Nat.lt_of_lt_of_le hj h5.size
 simp only[«Sort».grow]
 rw[Array.getElem?_append_left this]
theorem zK (B:Base W0){args:List LV}{out:Out}(h:lh args μ=some out):cG E.P W0 84 args μ out:=by
 obtain⟨s,t,z,v,rfl,hg,rfl⟩:=Mq h
 obtain⟨h1,h2⟩:=dF hg
 injection h2 with h2
 subst h2
 simp only[Bool.and_eq_true]at h1
 obtain⟨⟨a1,a2⟩,a3⟩:=h1
 have hl:=ek a1
 have hl2:=ek a2
 have h1':1≤(⟨⟨t⟩⟩:ByteArray).size:=of_decide_eq_true a3
 refine eR (vals:=[.string ⟨⟨s⟩⟩,.string ⟨⟨t⟩⟩,.string ⟨⟨z⟩⟩]) (c6 Tryz.func84 rfl (by kernel_rfl)) B fun w b=> ?_
 obtain⟨m,hm⟩:=b.max
 have hc:=Lib.countB_le ⟨⟨t⟩⟩ h1' _ ⟨⟨s⟩⟩ (Nat.le_refl _)
 refine Tryz.strings_ReplaceAll ⟨⟨s⟩⟩ ⟨⟨t⟩⟩ ⟨⟨z⟩⟩ m w (by omega) hm h1' ?_
 have:Lib.countB ⟨⟨s⟩⟩ ⟨⟨t⟩⟩*(⟨⟨z⟩⟩:ByteArray).size≤1000000*1000000:=Nat.mul_le_mul (by omega) hl2
 omega
theorem FM {G:Gh}{L:Nat}{n:Int}{v:Value}:LVR G w L 0 (.ltup [LV.int .i64 n,.cv (.iface 146 .undef)]) (.tuple #[.int .i64 n,.iface 146 v]):=by
 exact⟨_,rfl,_,_,rfl,rfl,rfl,_,_,rfl,rfl,⟨v,rfl,trivial⟩,rfl⟩
theorem Rg (B:Base W0){args:List LV}{out:Out}(h:Ak 146 args μ=some out):cG E.P W0 45 args μ out:=by
 obtain⟨s,v,rfl,hg,rfl⟩:=zm h
 obtain⟨h1,h2⟩:=dF hg
 injection h2 with h2
 subst h2
 have hl:=ek h1
 unfold ww
 cases ha:Lib.atoiAll s
 ·rename_i n
  refine zb (vals:=[.string ⟨⟨s⟩⟩]) (rs:=[.int .i64 n,.nilIface]) (c6 Tryz.func45 rfl (by kernel_rfl)) B fun w b=> ?_
  refine(Tryz.strconv_Atoi_ok ⟨⟨s⟩⟩ (by omega) n ha w).mono fun e w' ⟨h3,h4⟩=>⟨h3,?_⟩
  rcases h4 with rfl|⟨t,rfl⟩
  ·exact Below.refl _ _
  ·exact Joins.below_bytesWorld _ _ _ _ (Nat.le_refl _)
 ·refine j9 (c6 Tryz.func45 rfl (by kernel_rfl)) fun G w cargs hs hv k1 k2=> ?_
  rw[tu (vals:=[.string ⟨⟨s⟩⟩]) hs hv]
  obtain⟨tp,p,hp⟩:=(B.kept k2).esyn
  refine(Tryz.strconv_Atoi_syntax_var ⟨⟨s⟩⟩ (by omega) (fun v e=>by rw[ha]at e;cases e) (fun e=>by rw[ha]at e;cases e) tp p w hp).mono fun e w' ⟨N,h3,_,_,h4⟩=>⟨_,h3,h4,FM,fun b h=>by simp[aE]at h⟩
 ·refine j9 (c6 Tryz.func45 rfl (by kernel_rfl)) fun G w cargs hs hv k1 k2=> ?_
  rw[tu (vals:=[.string ⟨⟨s⟩⟩]) hs hv]
  obtain⟨tp,p,hp⟩:=(B.kept k2).erng
  refine(Tryz.strconv_Atoi_range_var ⟨⟨s⟩⟩ (by omega) ha tp p w hp).mono fun e w' ⟨N,h3,_,_,h4⟩=>⟨_,h3,h4,FM,fun b h=>by simp[aE]at h⟩
theorem C5 {n b0 b1 b2 b3:Nat}(h:b0<128):Lib.decodeN n b0 b1 b2 b3=(b0,1):=by unfold Lib.decodeN;rw[if_pos h]
theorem Bn {n b0 b1 b2 b3:Nat}(h: ¬b0<128):128≤(Lib.decodeN n b0 b1 b2 b3).1:=by
 unfold Lib.decodeN
 rw[if_neg h]
 repeat' split
 all_goals first|omega|(simp only;omega)
theorem FG {p:Nat→Bool}{q:UInt8→Bool}(h1: ∀b:UInt8,b.toNat<128→p b.toNat=q b)(h2: ∀x,128≤x→p x=true)(h3: ∀b:UInt8,128≤b.toNat→q b=true)(s:List UInt8):
  ∀(f pos:Nat),s.length≤f+pos→decide (0≤Lib.idxFuncFrom p true ⟨⟨s⟩⟩ f pos)=(s.drop pos).any q
 |0,pos,hf=>by
  rw[List.drop_eq_nil_of_le (by omega)]
  rfl
 |f+1,pos,hf=>by
  unfold Lib.idxFuncFrom
  have hsz:(⟨⟨s⟩⟩:ByteArray).size=s.length:=rfl
  by_cases hlt:pos<s.length
  ·rw[if_pos (by rw[hsz];exact hlt),Lib.decode_at,List.drop_eq_getElem_cons hlt,List.any_cons]
   have hg:((⟨⟨s⟩⟩:ByteArray).get! pos)=s[pos]:=by
    simp[ByteArray.get!,hlt]
   rw[hg]
   by_cases hb:s[pos].toNat<128
   ·rw[C5 hb]
    simp only
    rw[h1 _ hb]
    cases hq:q s[pos]with
    |true=>simp
    |false=>
     rw[if_neg (by simp),FG h1 h2 h3 s f (pos+1) (by omega),Bool.false_or]
   ·rw[h2 _ (Bn hb),if_pos rfl,h3 _ (by omega)]
    simp
  ·rw[if_neg (by rw[hsz];exact hlt),List.drop_eq_nil_of_le (by omega)]
   rfl
noncomputable def E0:Env:={E with prim:=fun _=>none}
theorem S6 (W:World):tq E0 W:=fun f g h=>by cases h
theorem SO:E0.P.follows .mixedOrders=true:=by kernel_rfl
theorem Jd {g:FuncId}{p:Nat→Bool}(hr: ∀x:Nat,(ev E0).call g [LV.int .i32 (x:Int)] []=some (.ret (LV.bool (p x)) [])):PredGrows Tryz.prog g #[] p w:=by
 intro W x hx hb
 have hm:=Bv SO (S6 W) (hr x)
 have he:(#[encR x]++(#[]:Array Value))= #[encR x]:=rfl
 rw[he]
 obtain ⟨R, hT⟩ := Rel.top (w := W) (args := [CV.int .i32 (x : Int)]) (cargs := #[encR x]) (by
  intro j y hy
  cases j with
  |zero=>simp at hy;subst hy;simp[VR]
  |succ j=>simp at hy)
 refine(hm.2 (Gh.top W) W #[encR x] rfl R ⟨Nat.le_refl _,fun b _=>⟨rfl,hT b⟩⟩).mono fun e w' h=> ?_
 cases e with
 |returned cv=>
  simp only[ff]at h
  obtain⟨O',R',E⟩:=h
  have h0:=R'.fr 0
  simp only[cz,List.getElem?_cons_zero,Option.getD_some,LVR,VR]at h0
  have:cv= .bool (p x):=by simpa using h0
  subst this
  exact⟨rfl,E.os,E.tape,E.output,E.size,fun b hb=>(E.keep b hb (hT b)).1⟩
 |panicked ch=>exact h.elim
 |_=>exact h.elim
theorem EF {β:Type}{v:LV}{k:LV→Mu→Option β}{p:CV→Mu→Option β}:callK (some (.ret v μ)) k p=k v μ:=rfl
theorem Mj {α β:Type}{a:α}{k:α→Option β}:opt (some a) k=k a:=rfl
theorem dIn (a b:Nat):decide ((a:Int)<(b:Int))=decide (a<b):=by simp
theorem VM (x:Nat):(ev E0).call 122 [LV.int .i32 (x:Int)] []=some (.ret (LV.bool (decide (x<32)||decide (126<x))) []):=by
 refine aJ ?_
 have:aC E0 (ev E0) 122 [LV.int .i32 (x:Int)] []=cond (decide ((x:Int)<32)) (some (.ret (LV.bool true) [])) (some (.ret (LV.bool (decide ((126:Int)<(x:Int)))) [])):=by kernel_rfl
 have e1:decide ((x:Int)<32)=decide (x<32):=dIn x 32
 have e2:decide ((126:Int)<(x:Int))=decide (126<x):=dIn 126 x
 rw[this,e1,e2]
 cases decide (x<32)<;>rfl
theorem VL (x:Nat):(ev E0).call 112 [LV.int .i32 (x:Int)] []=some (.ret (LV.bool (decide (x<48)||decide (57<x))) []):=by
 refine aJ ?_
 have:aC E0 (ev E0) 112 [LV.int .i32 (x:Int)] []=cond (decide ((x:Int)<48)) (some (.ret (LV.bool true) [])) (some (.ret (LV.bool (decide ((57:Int)<(x:Int)))) [])):=by kernel_rfl
 have e1:decide ((x:Int)<48)=decide (x<48):=dIn x 48
 have e2:decide ((57:Int)<(x:Int))=decide (57<x):=dIn 57 x
 rw[this,e1,e2]
 cases decide (x<48)<;>rfl
theorem p44 (x:Nat):(ev E0).call 44 [LV.int .i32 (x:Int)] []=some (.ret (LV.bool (decide (x<48)||decide (57<x))) []):=by
 refine aJ ?_
 have:aC E0 (ev E0) 44 [LV.int .i32 (x:Int)] []=cond (decide ((x:Int)<48)) (some (.ret (LV.bool true) [])) (some (.ret (LV.bool (decide ((57:Int)<(x:Int)))) [])):=by kernel_rfl
 have e1:decide ((x:Int)<48)=decide (x<48):=dIn x 48
 have e2:decide ((57:Int)<(x:Int))=decide (57<x):=dIn 57 x
 rw[this,e1,e2]
 cases decide (x<48)<;>rfl
def Hz (b:Int):Bool:=(decide ((97:Int)≤b)&&decide (b≤122))||(decide ((65:Int)≤b)&&decide (b≤90))
theorem p90 {b:Int}:(ev E0).call 90 [LV.int .u8 b] []=some (.ret (LV.bool (Hz b)) []):=by
 refine aJ ?_
 have : aC E0 (ev E0) 90 [LV.int .u8 b] [] = cond (decide ((97 : Int) ≤ b)) (
   cond (decide (b ≤ (122 : Int))) (
   some (.ret (LV.bool true) [])) (
   cond (decide ((65 : Int) ≤ b)) (
   some (.ret (LV.bool (decide (b≤(90:Int)))) [])) (
   some (.ret (LV.bool false) [])))) (
   cond (decide ((65 : Int) ≤ b)) (
   some (.ret (LV.bool (decide (b≤(90:Int)))) [])) (
   some (.ret (LV.bool false) []))):=by kernel_rfl
 rw[this]
 unfold Hz
 cases decide ((97:Int)≤b)<;>cases decide (b≤122)<;>cases decide ((65:Int)≤b)<;>rfl
theorem VN {b:Int}:(ev E0).call 132 [LV.int .u8 b] []=some (.ret (LV.bool (decide ((48:Int)≤b)&&decide (b≤57))) []):=by
 refine aJ ?_
 have:aC E0 (ev E0) 132 [LV.int .u8 b] []=cond (decide ((48:Int)≤b)) (some (.ret (LV.bool (decide (b≤(57:Int)))) [])) (some (.ret (LV.bool false) [])):=by kernel_rfl
 rw[this]
 cases decide ((48:Int)≤b)<;>rfl
def OC (b:Int):Bool:=Hz b||(decide ((48:Int)≤b)&&decide (b≤57))||decide (b=95)
theorem Lr {b:Bool}:aM (LV.bool b)=some b:=rfl
theorem p93 {b:Int}:(ev E0).call 93 [LV.int .u8 b] []=some (.ret (LV.bool (OC b)) []):=by
 refine aJ ?_
 have : ∀ ρ : Rho, aC E0 ρ 93 [LV.int .u8 b] [] = callK (ρ.call 90 [LV.int .u8 b] []) (fun v1 μ2 =>
   opt (aM v1) fun b5=>
   cond (b5) (
   some (.ret (LV.bool true) μ2)) (
   callK (ρ.call 132 [LV.int .u8 b] μ2) (fun v6 μ7 =>
   opt (aM v6) fun b10=>
   cond (b10) (
   some (.ret (LV.bool true) μ7)) (
   some (.ret (LV.bool (decide (b=(95:Int)))) μ7))) (fun v9 μ8=>
   aB (below (List.length μ8) v9) (some (.panic v9 μ8))))) (fun v4 μ3=>
   aB (below (List.length μ3) v4) (some (.panic v4 μ3))):=by intro ρ;kernel_rfl
 rw[this,p90,EF,Lr,Mj]
 unfold OC
 cases Hz b with
 |true=>rfl
 |false=>
  rw[cond_false,VN,EF,Lr,Mj]
  cases (decide ((48:Int)≤b)&&decide (b≤57))<;>rfl
def Af (x:Nat):Bool:=decide (126<x)|| !OC (IntKind.wrap .u8 (x:Int))
theorem p92 (x:Nat):(ev E0).call 92 [LV.int .i32 (x:Int)] []=some (.ret (LV.bool (Af x)) []):=by
 refine aJ ?_
 have : ∀ ρ : Rho, aC E0 ρ 92 [LV.int .i32 (x : Int)] [] = cond (decide ((126 : Int) < (x : Int))) (
   some (.ret (LV.bool true) [])) (
   callK (ρ.call 93 [LV.int .u8 (IntKind.wrap .u8 (x : Int))] []) (fun v1 μ2 =>
   opt (aM v1) fun b5=>
   some (.ret (LV.bool (!b5)) μ2)) (fun v4 μ3=>
   aB (below (List.length μ3) v4) (some (.panic v4 μ3)))):=by intro ρ;kernel_rfl
 have e2:decide ((126:Int)<(x:Int))=decide (126<x):=dIn 126 x
 rw[this,p93,e2]
 unfold Af
 cases decide (126<x)<;>rfl
theorem tE {g:FuncId}{p:Nat→Bool}{q:UInt8→Bool}(hr: ∀x:Nat,(ev E0).call g [LV.int .i32 (x:Int)] []=some (.ret (LV.bool (p x)) []))(hg: ∀args w,(callFunc g args).run Tryz.prog w= .ok (.enter g args) w)
  (h1: ∀b:UInt8,b.toNat<128→p b.toNat=q b) (h2: ∀x,128≤x→p x=true) (h3: ∀b:UInt8,128≤b.toNat→q b=true) {s:List UInt8}:
  cG E.P W0 43 [LV.str s,LV.cv (.clo g [])] μ (.ret (LV.bool (s.any q)) μ):=by
 refine j9 (c6 Tryz.func43 rfl (by kernel_rfl)) fun G w cargs hs hv k1 k2=> ?_
 have hc:cargs= #[.string ⟨⟨s⟩⟩,.func (.func g) #[] #[]]:=by
  have e0:=hv 0 _ rfl
  have e1:=hv 1 _ rfl
  simp only[LVR,VR]at e0 e1
  obtain⟨vs,e1,e2⟩:=e1
  simp only[VRL]at e2
  have:vs= #[]:=by
   apply Array.ext'
   rw[e2]
  subst this
  simp only[List.length_cons,List.length_nil]at hs
  apply Array.ext
  ·exact hs
  ·intro j hj1 hj2
   have:j=0∨j=1:=by simp at hj2;omega
   rcases this with rfl|rfl
   ·rw[Array.getD_eq_getD_getElem?,Array.getElem?_eq_getElem hj1]at e0
    simpa using e0
   ·rw[Array.getD_eq_getD_getElem?,Array.getElem?_eq_getElem hj1]at e1
    simpa using e1
 rw[hc]
 refine(Tryz.strings_ContainsFunc_grows g #[] hg p ⟨⟨s⟩⟩ w (Jd hr)).mono fun e w' ⟨h4,h5⟩=>⟨_,h4,h5,?_,fun b h=>by simp[aE]at h⟩
 have:=FG h1 h2 h3 s s.length 0 (by omega)
 rw[List.drop_zero]at this
 have e:Lib.idxFunc p true ⟨⟨s⟩⟩=Lib.idxFuncFrom p true ⟨⟨s⟩⟩ s.length 0:=rfl
 rw[e,this]
 rfl
theorem NT: ∀i:Fin 128,Af i.val= !((decide (97≤i.val)&&decide (i.val≤122))||(decide (65≤i.val)&&decide (i.val≤90))||(decide (48≤i.val)&&decide (i.val≤57))||decide (i.val=95)):=by decide
theorem xe {args:List LV}{out:Out}(h:gx lQ args μ=some out):cG E.P W0 43 args μ out:=by
 unfold gx at h
 obtain⟨q,hq,h⟩:=bA h
 obtain⟨r,hr,h⟩:=bA h
 obtain⟨u,hu,h⟩:=bA h
 obtain⟨s,hs,h⟩:=bA h
 have hargs:args=[LV.str s,r.1]:=by rw[dT hq,dT hr,gl hu,gk hs]
 rw[hargs]
 split at h
 ·rename_i g hg
  rw[hg]
  obtain⟨p,hp,h⟩:=bA h
  injection h with h
  subst h
  unfold lQ at hp
  split at hp
  ·injection hp with hp;subst hp
   exact tE VM Tryz.call122 (fun b hb=>rfl) (fun x hx=>by simp;omega) (fun b hb=>by simp;omega)
  ·injection hp with hp;subst hp
   exact tE VL Tryz.call112 (fun b hb=>rfl) (fun x hx=>by simp;omega) (fun b hb=>by simp;omega)
  ·injection hp with hp;subst hp
   exact tE p44 Tryz.call44 (fun b hb=>rfl) (fun x hx=>by simp;omega) (fun b hb=>by simp;omega)
  ·injection hp with hp;subst hp
   refine tE p92 Tryz.call92 (fun b hb=>NT ⟨b.toNat,hb⟩) (fun x hx=> ?_) (fun b hb=> ?_)
   ·unfold Af
    have:decide (126<x)=true:=by simp;omega
    rw[this];rfl
   ·simp;omega
  ·cases hp
 ·cases h
end
end Go.Abs
set_option linter.unusedVariables false
set_option linter.unusedSimpArgs false
set_option maxRecDepth 100000
namespace Go.Proofs.YtfcjjankfjaapaaGreatDoor.Glue
open Go Go.Proofs Go.Abs Go.Shelf Go.Lib Go.ChangeShapes Go.WideShapes Go.ChangeAt Go.RowKit
def tA:List (String×DataW Unit):=[("math/bits.deBruijn32tab",Rows.laid_math_bits_deBruijn32tab),("math/bits.deBruijn64tab",Rows.laid_math_bits_deBruijn64tab),("internal/strconv.uint64pow10",Rows.laid_internal_strconv_uint64pow10),("unicode/utf8.acceptRanges",Rows.laid_unicode_utf8_acceptRanges),("strconv.ErrRange",Rows.laid_strconv_ErrRange),("strconv.ErrSyntax",Rows.laid_strconv_ErrSyntax),("unicode.CaseRanges",Rows.laid_unicode_CaseRanges),("unicode/utf8.first",Rows.laid_unicode_utf8_first)]
def Qm:Go.Shelf.Ren:=⟨fun|274=>198|n=>n,fun|21=>21|162=>195|160=>212|3=>3|4=>4|46=>154|0=>0|208=>219|51=>196|206=>217|n=>n,fun|13=>3|n=>n⟩
theorem Qy : Go.Proofs.Lays.n274 Tryz.prog Qm := {
 mixed:=by kernel_rfl
 f274:=Tryz.func198.trans (congrArg some (by kernel_rfl))
 t0:=Tryz.underlying0
 a0:=Tryz.isAgg0
 z0:=Tryz.sizeOf0
 v0:=Tryz.zeroValue0
 t3:=Tryz.underlying3
 a3:=Tryz.isAgg3
 z3:=Tryz.sizeOf3
 v3:=Tryz.zeroValue3
 t4:=Tryz.underlying4
 a4:=Tryz.isAgg4
 z4:=Tryz.sizeOf4
 v4:=Tryz.zeroValue4
 t21:=Tryz.underlying21
 a21:=Tryz.isAgg21
 z21:=Tryz.sizeOf21
 v21:=Tryz.zeroValue21
 t46:=Tryz.underlying154
 a46:=Tryz.isAgg154
 z46:=Tryz.sizeOf154
 v46:=Tryz.zeroValue154
 t51:=Tryz.underlying196
 a51:=Tryz.isAgg196
 z51:=Tryz.sizeOf196
 v51:=Tryz.zeroValue196
 t160:=Tryz.underlying212
 a160:=Tryz.isAgg212
 z160:=Tryz.sizeOf212
 v160:=Tryz.zeroValue212
 t162:=Tryz.underlying195
 a162:=Tryz.isAgg195
 z162:=Tryz.sizeOf195
 v162:=Tryz.zeroValue195
 t208:=Tryz.underlying219
 a208:=Tryz.isAgg219
 z208:=Tryz.sizeOf219
 v208:=Tryz.zeroValue219}
def UD:Go.Shelf.Ren:=⟨fun n=>n,fun|5=>5|119=>199|139=>202|138=>201|n=>n,fun|3=>4|4=>5|n=>n⟩
theorem Rw:U8Types Tryz.prog UD:=⟨Tryz.underlying5,Tryz.underlying199,Tryz.underlying201,Tryz.underlying202⟩
theorem Ta: "*" ++ "errors.errorString" = "*errors.errorString" :=by decide
theorem Mz (u:TypeId)(h:Tryz.prog.typeName? 3 u=some "*errors.errorString"):u=188:=
 typeName_ptr_named (nm:= "errors.errorString") (by rw[Ta];kernel_rfl) (by kernel_rfl) (by decide) u (by rw[Ta];exact h)
theorem AZ {W:World}(hL:laidMet Tryz.prog tA W)(hS:W.ShapedOpen Tryz.prog):Base W:=by
 obtain⟨a0,t0,hv0,hc0,ht0,_⟩:=laid_sentinel (g:=1) hL.tail.tail.tail.tail (by kernel_rfl) (by kernel_rfl) Tryz.underlying76 Mz Tryz.underlying188 Tryz.underlying190 rfl rfl Tryz.underlying9 (by kernel_rfl) (by kernel_rfl)
 obtain⟨a1,t1,hv1,hc1,ht1,_⟩:=laid_sentinel (g:=0) hL.tail.tail.tail.tail.tail (by kernel_rfl) (by kernel_rfl) Tryz.underlying76 Mz Tryz.underlying188 Tryz.underlying190 rfl rfl Tryz.underlying9 (by kernel_rfl) (by kernel_rfl)
 have r4:=Lib.laidMet.reads hL (.tail _ (.tail _ (.tail _ (.head _))))
 have r7:=Lib.laidMet.reads hL (.tail _ (.tail _ (.tail _ (.tail _ (.tail _ (.tail _ (.head _)))))))
 have r8:=Lib.laidMet.reads hL (.tail _ (.tail _ (.tail _ (.tail _ (.tail _ (.tail _ (.tail _ (.head _))))))))
 have r7':VarReads Tryz.prog W "unicode.CaseRanges" caseData:=by rw[←Pinned.caseRanges_eq];exact r7
 have r8':VarReads Tryz.prog W "unicode/utf8.first" firstData:=by rw[←Pinned.utf8First_eq];exact r8
 refine⟨?_,?_,?_,?_,⟨_,_,hv1⟩,⟨_,_,hv0⟩⟩
 ·exact cell_of_shapedOpen_int (zero:= #[.int .i64 0]) (t:=3) hS (of_decide_eq_true (by kernel_rfl)) (by kernel_rfl) rfl (by kernel_rfl) (by kernel_rfl) Tryz.underlying3
 ·exact caseVar_of_reads Qy Tryz.underlying217 ⟨by kernel_rfl,by kernel_rfl,by kernel_rfl,by kernel_rfl,by kernel_rfl,by kernel_rfl⟩ r7'
 ·exact utf8Tabs_of_readsT Rw ⟨by kernel_rfl,by kernel_rfl,by kernel_rfl,by kernel_rfl,by kernel_rfl,by kernel_rfl,by kernel_rfl⟩ r8' r4
 ·exact Lib.tabIs_of_head (g:=6) (t:=204) (e:=165) (n:=20) (by kernel_rfl) (by kernel_rfl) Tryz.underlying204 Tryz.underlying165 (by kernel_rfl) (by kernel_rfl) hL.tail.tail
end Go.Proofs.YtfcjjankfjaapaaGreatDoor.Glue
set_option linter.unusedVariables false
set_option linter.unusedSimpArgs false
set_option maxRecDepth 1000000
namespace Go.Proofs.YtfcjjankfjaapaaGreatDoor.Glue
open Go Go.Proofs Go.Shelf Go.Lib Go.Great Go.ChangeShapes Go.WideShapes Go.ChangeAt Go.RowKit
def wP {H:Type}:DataW H→List Value
 | .agg l=>l.flatMap fun| .lit (.int k z)=>[Value.int k z]| .agg [.lit (.int k z),.lit (.int k' z')]=>[Value.int k z,Value.int k' z']|_=>[]
 |_=>[]
def MS (l:List UInt8):Value:= .string ⟨l.toArray⟩
noncomputable def g9 (os:Os):World:=
 let N:=(World.settled Tryz.prog os).heap.size
 let w0 := World.holding Tryz.prog os ⟨#[.cells (caseT.flatMap cells5).toArray 219,
  .cells #[MS [118,97,108,117,101,32,111,117,116,32,111,102,32,114,97,110,103,101]] 190,
  .cells #[MS [105,110,118,97,108,105,100,32,115,121,110,116,97,120]] 190],#[],[]⟩
 let put (h:Array Obj) (g:Nat) (cs:Array Value):Array Obj:=h.modify g fun
  | .cells _ t frozen=> .cells cs t frozen
  |o=>o
 let h1:=put w0.heap 0 #[.iface 188 (.pointer (some ⟨N+2,0,none⟩))]
 let h2:=put h1 1 #[.iface 188 (.pointer (some ⟨N+1,0,none⟩))]
 let h3:=put h2 3 #[.slice (some ⟨N,0,none⟩) caseT.length caseT.length]
 let h4:=put h3 4 (Lib.firstTab.map fun z=>Value.int .u8 z).toArray
 let h5:=put h4 5 (wP (H:=Unit) Rows.laid_unicode_utf8_acceptRanges).toArray
 let h6:=put h5 6 (wP (H:=Unit) Rows.laid_internal_strconv_uint64pow10).toArray
 let h7:=put h6 7 (wP (H:=Unit) Rows.laid_math_bits_deBruijn32tab).toArray
 let h8:=put h7 8 (wP (H:=Unit) Rows.laid_math_bits_deBruijn64tab).toArray
 {w0 with heap:=h8}
noncomputable abbrev N0:Nat:=(World.settled Tryz.prog default).heap.size
theorem cty:CTypes Tryz.prog 195 219 217 196 21:=⟨by kernel_rfl,by kernel_rfl,by kernel_rfl,by kernel_rfl,by kernel_rfl,by kernel_rfl,by kernel_rfl,by kernel_rfl,by kernel_rfl⟩
theorem S3 (os:Os)(args:Array Value):LaidIn Tryz.prog ((g9 os).forCall (fun _ _=>0) ⟨#[],args,[]⟩).memory (tA.take 6) [7,8,6,5,1,N0+1,0,N0+2]:=
 LaidIn.of_run [7,8,6,5,1,N0+1,0,N0+2] 8 (by kernel_rfl) (by kernel_rfl) (by kernel_rfl) (by kernel_rfl)
theorem S4 (os:Os)(args:Array Value):LaidIn Tryz.prog ((g9 os).forCall (fun _ _=>0) ⟨#[],args,[]⟩).memory [("unicode.CaseRanges",Rows.laid_unicode_CaseRanges)] [3,N0]:=by
 have e:Rows.laid_unicode_CaseRanges= .slice (caseT.map rowData) []:=Pinned.caseRanges_eq
 rw[e]
 exact laidIn_case cty (g:=3) (B:=N0) (tg:=195) (tb:=219) caseT (by kernel_rfl) (by kernel_rfl) (Nat.le_of_ble_eq_true (by kernel_rfl)) (by kernel_rfl) (by kernel_rfl) (by kernel_rfl) (Nat.ne_of_beq_eq_false (by kernel_rfl))
theorem S5 (os:Os)(args:Array Value):LaidIn Tryz.prog ((g9 os).forCall (fun _ _=>0) ⟨#[],args,[]⟩).memory [("unicode/utf8.first",Rows.laid_unicode_utf8_first)] [4]:=
 LaidIn.of_run [4] 8 (by kernel_rfl) (by kernel_rfl) (by kernel_rfl) (by kernel_rfl)
theorem NM (os:Os)(args:Array Value):laidMet Tryz.prog tA ((g9 os).forCall (fun _ _=>0) ⟨#[],args,[]⟩).memory:=
 ((((S3 os args).append (S4 os args) (by kernel_rfl)).append (S5 os args) (by kernel_rfl))).met
theorem own:ownKnob Tryz.prog.godebug=none:=by kernel_rfl
end Go.Proofs.YtfcjjankfjaapaaGreatDoor.Glue
set_option linter.unusedVariables false
set_option linter.unusedSimpArgs false
namespace Go.Abs.Ga
open Go Go.ChangeShapes Go.WideShapes Go.WideElems Go.RowKit Go.ChangeAt Go.Deep
inductive Sh where
 |int (k:IntKind)
 |bool
 |str
 |sl (st:Bool) (l:List Sh)
mutual
def Is:Sh→CV→Prop
 | .int k,c=> ∃n,c= .v (.int k n)∧(Lit.int k n).wf=true
 | .bool,c=> ∃b,c= .v (.bool b)
 | .str,c=> ∃s:List UInt8,c=CV.str s∧s.length≤maxLen
 | .sl st l,c=> ∃xs:List CV,c= .sl xs∧xs.length≤maxLen∧ ∀x∈xs,if st then ∃ys,x= .agg ys∧IsL l ys else IsL l [x]
def IsL:List Sh→List CV→Prop
 |[],ys=>ys=[]
 |s::l,ys=> ∃y r,ys=y::r∧Is s y∧IsL l r
end
theorem EC: ∀{l:List Sh} {ys:List CV},IsL l ys→ys.length=l.length
 |[],ys,h=>by simp only[IsL]at h;rw[h];rfl
 |s::l,ys,h=>by
  simp only[IsL]at h
  obtain⟨y,r,rfl,_,h2⟩:=h
  simp[EC h2]
theorem EB: ∀{l m:List Sh} {xs ys:List CV},IsL l xs→IsL m ys→IsL (l++m) (xs++ys)
 |[],m,xs,ys,h1,h2=>by simp only[IsL]at h1;rw[h1];exact h2
 |s::l,m,xs,ys,h1,h2=>by
  simp only[IsL]at h1
  obtain⟨y,r,rfl,a,b⟩:=h1
  exact⟨y,r++ys,rfl,a,EB b h2⟩
theorem AC {s:Sh}{c:CV}(h:Is s c):c.cells.length=1∧ ∀ys,c≠ .agg ys:=by
 cases s with
 |int k=>simp only[Is]at h;obtain⟨n,rfl,_⟩:=h;exact⟨rfl,fun ys e=>by cases e⟩
 |bool=>simp only[Is]at h;obtain⟨n,rfl⟩:=h;exact⟨rfl,fun ys e=>by cases e⟩
 |str=>simp only[Is]at h;obtain⟨n,rfl,_⟩:=h;exact⟨rfl,fun ys e=>by cases e⟩
 |sl st l=>simp only[Is]at h;obtain⟨n,rfl,_⟩:=h;exact⟨rfl,fun ys e=>by cases e⟩
def fieldsOf (P:Program)(f:TypeId→Option (List Sh)):Nat→List Field→Option (List Sh)
 |_,[]=>some []
 |off,x::r=>match f x.type with
  |some l=>if x.offset=off∧P.cellsOf x.type=l.length then(match fieldsOf P f (off+l.length) r with|some m=>some (l++m)|none=>none)else none
  |none=>none
def iJ (P:Program):Nat→TypeId→Option (List Sh)
 |0,_=>none
 |n+1,t=>match P.underlying t with
  |some .bool=>some [.bool]
  |some (.int k)=>some [.int k]
  |some .string=>some [.str]
  | some (.slice e) => (match iJ P n e with
   |some []=>none
   | some (x :: l) => if P.cellsOf e = (x :: l).length then (match P.underlying e with
    |some (.struct _)=>some [.sl true (x::l)]
    |_=>if l.length=0 then some [.sl false (x::l)]else none)else none
   |none=>none)
  | some (.struct fs) => (match fieldsOf P (iJ P n) 0 fs.toList with
   |some l=>if P.cellsOf t=l.length then some l else none
   |none=>none)
  |_=>none
section
variable {H:Type}{enc:TypeId×Value→H}{P:Program}{w:World}{base:Nat}{spare:Nat→Bool}{held:Bool}
theorem VRL_app {G:Gh}: ∀{xs ys:List CV} {cs ds:List Value},VRL G w xs cs→VRL G w ys ds→VRL G w (xs++ys) (cs++ds)
 |[],ys,cs,ds,h1,h2=>by simp only[VRL]at h1;rw[h1];exact h2
 |x::xs,ys,cs,ds,h1,h2=>by
  simp only[VRL]at h1
  obtain⟨v,r,rfl,a,b⟩:=h1
  exact⟨v,r++ds,rfl,a,VRL_app b h2⟩
theorem P4 {b:Nat}{off:Nat}{v:Value}(h:w.cell? ⟨b,off,none⟩=some v):off<(Gh.top w).O b:=by
 unfold World.cell? at h
 simp only[Gh.top]
 split at h
 ·rename_i c e fz hb
  rw[hb]
  simp only
  by_cases hl:off<c.size
  ·exact hl
  ·have h':c[off]? =some v:=by simpa using h
   rw[Array.getElem?_eq_none (by omega)]at h'
   cases h'
 ·cases h
theorem CL_of: ∀{xs:List CV} {cs:List Value} {b off:Nat},VRL (Gh.top w) w xs cs→(∀i,i<cs.length→w.cell? ⟨b,off+i,none⟩=cs[i]?)→CL (Gh.top w) w b off xs
 |[],cs,b,off,_,_=>by simp only[CL]
 |x::xs,cs,b,off,h1,h2=>by
  simp only[VRL]at h1
  obtain⟨v,r,rfl,a,c⟩:=h1
  have h0:=h2 0 (by simp)
  simp only[Nat.add_zero,List.getElem?_cons_zero]at h0
  simp only[CL]
  refine⟨⟨v,h0,P4 h0,a⟩,CL_of c fun i hi=> ?_⟩
  have:=h2 (i+1) (by simp;omega)
  simpa[Nat.add_assoc,Nat.add_comm 1 i]using this
theorem Nw: ∀{n:Nat} {a:Addr} {cs:List Value},w.cells? base a n=some cs→cs.length=n∧ ∀i,i<n→w.cell? (a.add i)=cs[i]? :=by
 intro n a cs h
 obtain⟨_,h1,h2⟩:=World.cells?_some h
 exact⟨h1,h2⟩
theorem P7 (a:Addr)(i j:Nat):(a.add i).add j=a.add (i+j):=by
 unfold Addr.add
 by_cases hi:i=0
 ·subst hi
  by_cases hj:j=0
  ·subst hj;simp
  ·simp[hj]
 ·by_cases hj:j=0
  ·subst hj;simp[hi]
  ·have:i+j≠0:=by omega
   simp only[if_neg hi,if_neg hj,if_neg this,Nat.add_assoc]
theorem add_lit (b o i:Nat):(⟨b,o,none⟩:Addr).add i=⟨b,o+i,none⟩:=by
 unfold Addr.add
 split
 ·rename_i h;subst h;rfl
 ·rfl
theorem MK {a:Addr}{v:Value}(h:w.cell? a=some v):a.spot=none:=by
 unfold World.cell? at h
 split at h
 ·split at h
  ·cases h
  ·rename_i hs
   cases hq:a.spot with
   |none=>rfl
   |some k=>exact absurd (by rw[hq];rfl) hs
 ·cases h
def Pv (enc:TypeId×Value→H)(P:Program)(w:World)(base:Nat)(spare:Nat→Bool)(held:Bool)(f:TypeId→Option (List Sh)):Prop:=
 ∀(fuel:Nat) (t:TypeId) (cs:List Value) (x:DataW H×List MemPlace) (l:List Sh),DataW.trod enc P w base spare held fuel t cs=some x→f t=some l→ ∃xs,IsL l xs∧VRL (Gh.top w) w xs cs
theorem VRL_len {G:Gh}: ∀{xs:List CV} {cs:List Value},VRL G w xs cs→xs.length=cs.length
 |[],cs,h=>by simp only[VRL]at h;rw[h];rfl
 |x::xs,cs,h=>by
  simp only[VRL]at h
  obtain⟨v,r,rfl,_,b⟩:=h
  simp[VRL_len b]
theorem ut {f:TypeId→Option (List Sh)}(hf:Pv enc P w base spare held f){fuel:Nat}: ∀(fs:List Field) (off:Nat) (cs:List Value) (l:List Sh),fieldsOf P f off fs=some l→cs.length=off+l.length→
  (∀x∈fs,∃y,DataW.trod enc P w base spare held fuel x.type ((cs.drop x.offset).take (P.cellsOf x.type))=some y)→ ∃xs,IsL l xs∧VRL (Gh.top w) w xs (cs.drop off)
 |[],off,cs,l,h,hl,_=>by
  simp only[fieldsOf]at h
  injection h with h
  subst h
  refine⟨[],rfl,?_⟩
  rw[List.drop_eq_nil_of_le (by simp at hl;omega)]
  rfl
 |x::r,off,cs,l,h,hl,ha=>by
  simp only[fieldsOf]at h
  split at h
  ·rename_i l1 h1
   split at h
   ·rename_i hc
    split at h
    ·rename_i m h2
     injection h with h
     subst h
     obtain⟨y,hy⟩:=ha x (by simp)
     obtain⟨xs,a1,a2⟩:=hf fuel x.type _ y l1 hy h1
     obtain⟨ys,b1,b2⟩:=ut hf r (off+l1.length) cs m h2 (by rw[hl,List.length_append];omega) fun z hz=>ha z (List.mem_cons_of_mem _ hz)
     refine⟨xs++ys,EB a1 b1,?_⟩
     rw[hc.1,hc.2]at a2
     have:cs.drop off=(cs.drop off).take l1.length++cs.drop (off+l1.length):=by
      rw[←List.drop_drop,List.take_append_drop]
     rw[this]
     exact VRL_app a2 b2
    ·cases h
   ·cases h
  ·cases h
theorem EL_of {b s:Nat}{st:Bool}{l:List Sh}: ∀(xs:List CV) (off:Nat),(∀x∈xs,if st then ∃ys,x= .agg ys∧IsL l ys else IsL l [x])→
  (∀j x,xs[j]? =some x→ ∃cs,VRL (Gh.top w) w x.cells cs∧cs.length=s∧ ∀i,i<s→w.cell? ⟨b,off+j*s+i,none⟩=cs[i]?)→(st=false→s=1)→EL (Gh.top w) w b s off xs
 |[],off,_,_,_=>by simp only[EL]
 |x::r,off,h,hc,hs=>by
  obtain⟨cs,c1,c2,c3⟩:=hc 0 x rfl
  have hr := EL_of (b := b) (s := s) (st := st) (l := l) r (off + s) (fun y hy => h y (List.mem_cons_of_mem _ hy)) (fun j y hy => by
   obtain⟨ds,d1,d2,d3⟩:=hc (j+1) y (by simpa using hy)
   refine⟨ds,d1,d2,fun i hi=> ?_⟩
   have:=d3 i hi
   rw[Nat.add_mul,Nat.one_mul]at this
   rw[←this]
   congr 2
   omega) hs
  have h0:=h x (by simp)
  simp only[Nat.zero_mul,Nat.add_zero]at c3
  cases st with
  |true=>
   simp only[if_true]at h0
   obtain⟨ys,rfl,_⟩:=h0
   simp only[EL]
   refine⟨CL_of (cs:=cs) c1 (fun i hi=>c3 i (by omega)),hr⟩
  |false=>
   simp only[Bool.false_eq_true,if_false]at h0
   have hp: ∀ys,x≠ .agg ys:=by
    match l,h0 with
    |s::l',h0=>
     simp only[IsL]at h0
     obtain⟨y,r',e,h1,_⟩:=h0
     injection e with e _
     subst e
     exact(AC h1).2
    |[],h0=>simp only[IsL]at h0;cases h0
   have hx:x.cells=[x]:=by cases x<;>first|rfl|exact absurd rfl (hp _)
   rw[hx]at c1
   simp only[VRL]at c1
   obtain⟨v,r',rfl,c1,rfl⟩:=c1
   have h1:=c3 0 (by rw[hs rfl];omega)
   simp only[Nat.add_zero,List.getElem?_cons_zero]at h1
   cases x<;>first|exact absurd rfl (hp _)|(simp only[EL];exact⟨⟨v,h1,P4 h1,c1⟩,hr⟩)
theorem I9: ∀n,Pv enc P w base spare held (iJ P n):=by
 intro n
 induction n with
 |zero=>intro fuel t cs x l _ h;simp[iJ]at h
 |succ n ih=>
  intro fuel t cs x l ht h
  unfold iJ at h
  split at h
  ·rename_i hu
   injection h with h;subst h
   obtain⟨b,rfl,_⟩:=DataW.trod_bool hu ht
   exact⟨[.v (.bool b)],⟨_,_,rfl,⟨b,rfl⟩,rfl⟩,⟨_,_,rfl,rfl,rfl⟩⟩
  ·rename_i k hu
   injection h with h;subst h
   obtain⟨m,rfl,_,hw⟩:=DataW.trod_int hu ht
   exact⟨[.v (.int k m)],⟨_,_,rfl,⟨m,rfl,hw⟩,rfl⟩,⟨_,_,rfl,rfl,rfl⟩⟩
  ·rename_i hu
   injection h with h;subst h
   obtain⟨s,rfl,_,hs⟩:=DataW.trod_string hu ht
   refine⟨[CV.str s.data.toList],⟨_,_,rfl,⟨s.data.toList,rfl,hs⟩,rfl⟩,⟨_,_,rfl,?_,rfl⟩⟩
   cases s
   rfl
  ·rename_i e hu
   have key: ∀(st:Bool) (sh:List Sh),l=[.sl st sh]→iJ P n e=some sh→P.cellsOf e=sh.length→sh≠[]→(st=false→sh.length=1)→(st=true→ ∃fs,P.underlying e=some (.struct fs))→ ∃xs,IsL l xs∧VRL (Gh.top w) w xs cs:=by
    intro st sh hl h1 h2 h3 h4 _
    subst hl
    rcases open_slice hu ht with⟨rfl,_⟩|⟨a,len,cap,m,k,D,Pl,rfl,hb,hle,hm,hmm,_,hx⟩
    ·exact⟨[.sl []],⟨_,_,rfl,⟨[],rfl,by simp,fun x hx=>absurd hx (by simp)⟩,rfl⟩,⟨_,_,rfl,⟨none,0,0,rfl,rfl,Nat.le_refl _,Or.inl rfl⟩,rfl⟩⟩
    ·have hlm:len≤m:=by rw[hmm];split<;>omega
     have hone: ∀i,i<len→ ∃x:CV,(if st then ∃ys,x= .agg ys∧IsL sh ys else IsL sh [x])∧ ∃ds,VRL (Gh.top w) w x.cells ds∧ds.length=sh.length∧ ∀j,j<sh.length→w.cell? (a.add (i*sh.length+j))=ds[j]? :=by
      intro i hi
      obtain⟨cs',c1,c2⟩:=hx i (by omega)
      obtain⟨xs,x1,x2⟩:=ih k e cs' _ sh c2 h1
      obtain⟨d1,d2⟩:=Nw c1
      rw[h2]at d1 d2
      have d2': ∀j,j<sh.length→w.cell? (a.add (i*sh.length+j))=cs'[j]? :=fun j hj=>by
       rw[←d2 j hj,P7]
      cases st with
      |true=>exact⟨.agg xs,⟨xs,rfl,x1⟩,cs',x2,d1,d2'⟩
      |false=>
       have hl1:=EC x1
       rw[h4 rfl]at hl1
       obtain⟨y,rfl⟩:=List.length_eq_one_iff.1 hl1
       refine⟨y,x1,cs',?_,d1,d2'⟩
       have hp: ∀ys,y≠ .agg ys:=by
        match sh,x1 with
        |s::l',x1=>
         simp only[IsL]at x1
         obtain⟨y',r',e',z1,_⟩:=x1
         injection e' with e' _
         subst e'
         exact(AC z1).2
        |[],x1=>simp only[IsL]at x1;cases x1
       have hy:y.cells=[y]:=by cases y<;>first|rfl|exact absurd rfl (hp _)
       rw[hy]
       exact x2
     obtain⟨X,hX⟩:=choose_lt hone
     have hget: ∀j x,((List.range len).map X)[j]? =some x→j<len∧x=X j:=by
      intro j x hj
      rw[List.getElem?_map]at hj
      cases hq:(List.range len)[j]? with
      |none=>rw[hq]at hj;cases hj
      |some z=>
       rw[hq]at hj
       obtain⟨h5,h6⟩:=List.getElem?_eq_some_iff.1 hq
       simp at h5 h6 hj
       subst h6
       exact⟨h5,hj.symm⟩
     refine⟨[.sl ((List.range len).map X)],⟨_,_,rfl,⟨_,rfl,by simp;omega,fun x hxm=> ?_⟩,rfl⟩,⟨_,_,rfl,⟨some a,len,cap,rfl,by simp,hle,?_⟩,rfl⟩⟩
     ·obtain⟨j,hj⟩:=List.getElem?_of_mem hxm
      obtain⟨h5,rfl⟩:=hget j x hj
      exact(hX j h5).1
     ·by_cases h0:len=0
      ·exact Or.inl h0
      ·right
       have hpos:0<sh.length:=List.length_pos_iff.2 h3
       have hsp:a.spot=none:=by
        obtain⟨_,ds,e1,e2,e3⟩:=hX 0 (by omega)
        have:=e3 0 hpos
        rw[List.getElem?_eq_getElem (by omega)]at this
        exact MK (by simpa[Addr.add]using this)
       have ha:a=⟨a.block,a.off,none⟩:=by cases a;simp at hsp;simp[hsp]
       refine⟨a.block,a.off,sh.length,by rw[←ha],fun x hxm=> ?_,?_⟩
       ·obtain⟨j,hj⟩:=List.getElem?_of_mem hxm
        obtain⟨h5,rfl⟩:=hget j x hj
        obtain⟨_,ds,e1,e2,_⟩:=hX j h5
        rw[VRL_len e1,e2]
       ·refine EL_of (st:=st) (l:=sh) _ _ (fun x hxm=> ?_) (fun j x hj=> ?_) (fun e=>h4 e)
        ·obtain⟨j,hj⟩:=List.getElem?_of_mem hxm
         obtain⟨h5,rfl⟩:=hget j x hj
         exact(hX j h5).1
        ·obtain⟨h5,rfl⟩:=hget j x hj
         obtain⟨_,ds,e1,e2,e3⟩:=hX j h5
         refine⟨ds,e1,e2,fun i hi=> ?_⟩
         rw[←e3 i hi,ha,add_lit,Nat.add_assoc]
   split at h
   ·cases h
   ·rename_i y l' h1
    split at h
    ·rename_i h2
     split at h
     ·rename_i fs h3
      injection h with h
      exact key true _ h.symm h1 h2 (by simp) (fun e=>by cases e) (fun _=>⟨fs,h3⟩)
     ·split at h
      ·rename_i h4
       injection h with h
       exact key false _ h.symm h1 h2 (by simp) (fun _=>by simp only[List.length_cons];omega) (fun e=>by cases e)
      ·cases h
    ·cases h
   ·cases h
  ·rename_i fs hu
   split at h
   ·rename_i l' h1
    split at h
    ·rename_i h2
     injection h with h
     subst h
     obtain⟨xs,m,_,_,h3,h4,h5⟩:=DataW.trod_struct hu ht
     have:=ut ih (fuel:=m) fs.toList 0 cs l' h1 (by rw[h3,h2,Nat.zero_add]) fun f hf=>by
      obtain⟨i,hi⟩:=List.getElem?_of_mem hf
      have hi':fs[i]? =some f:=by rw[←Array.getElem?_toList];exact hi
      have hlt:i<xs.length:=by
       rw[h4]
       exact(Array.getElem?_eq_some_iff.1 hi').1
      refine⟨xs[i],?_⟩
      rw[h5 i f hi',List.getElem?_eq_getElem hlt]
     rw[List.drop_zero]at this
     exact this
    ·cases h
   ·cases h
  ·cases h
def kH (P:Program)(t:TypeId):Bool:=match P.underlying t with|some (.struct _)=>true|_=>false
theorem open_arg {n:Nat}{t:TypeId}{v:Value}{l:List Sh}{d:DataW H}{ps:List MemPlace}{r:Reach}{b0:Nat}(hl:iJ P n t=some l)(hval:Value.okWide P w r b0 t v)(hd:DataW.Trod enc P w base spare held t v d ps):
  ∃c,VR (Gh.top w) w c v∧(if kH P t=true then ∃ys,c= .agg ys∧IsL l ys else IsL l [c]):=by
 obtain⟨fuel,hf⟩:=hd
 obtain⟨xs,h1,h2⟩:=I9 n fuel t _ _ l hf hl
 by_cases hs:kH P t=true
 ·simp only[hs,if_true]
  obtain⟨fs,hfs⟩: ∃fs,P.underlying t=some (.struct fs):=by
   unfold kH at hs
   split at hs
   ·rename_i fs h;exact⟨fs,h⟩
   ·cases hs
  obtain⟨cs,rfl,_⟩:=okWide_struct hfs hval
  exact⟨.agg xs,⟨cs,rfl,h2⟩,xs,rfl,h1⟩
 ·simp only[hs,if_false,Bool.false_eq_true]
  have hv:v.cells.toList=[v]:=by
   cases n with
   |zero=>simp[iJ]at hl
   |succ n=>
    unfold iJ at hl
    split at hl
    ·rename_i hu
     obtain⟨_,rfl⟩:=okWide_bool hu hval
     rfl
    ·rename_i k hu
     obtain⟨_,rfl⟩:=okWide_int hu hval
     rfl
    ·rename_i hu
     obtain⟨_,rfl⟩:=okWide_string hu hval
     rfl
    ·rename_i e hu
     obtain⟨_,_,_,rfl⟩:=okWide_slice hu hval
     rfl
    ·rename_i fs hu
     exact absurd (by unfold kH;rw[hu]) hs
    ·cases hl
  rw[hv]at h2
  have hlen:=VRL_len h2
  obtain⟨c,rfl⟩:=List.length_eq_one_iff.1 hlen
  simp only[VRL]at h2
  obtain⟨v',r',e,h3,_⟩:=h2
  injection e with e _
  subst e
  exact⟨c,h3,h1⟩
theorem MA {W W':World}(h:xU W W'){p:MemPlace}(hp:p.block<W.heap.size):W.sameAt W' p:=by
 cases p with
 |cell b o=>exact World.cell?_of_block (w:=W) (h.2.2.2 b hp)
 |map b=>exact h.2.2.2 b hp
def xv (P:Program)(ts:List TypeId):Bool:=ts.all fun t=>P.readableRec t&&decide (t<P.types.size)
theorem yM (hl:laidOutB P=true){W W':World}(hk:xU W W'){sp:Nat→Bool}: ∀{ts:List TypeId} {vs:List Value} {ds:List (DataW H)} {ps:List MemPlace},xv P ts=true→
  DataW.TrodAll enc P W 0 (fun _=>true) true ts vs ds ps→(∀p∈ps,p.block<W.heap.size)→(∀p∈ps,sp p.block=true)→DataW.TrodAll enc P W' 0 sp true ts vs ds ps
 |[],[],[],ps,_,h,_,_=>h
 |t::ts,v::vs,d::ds,ps,hr,h,hlt,hsp=>by
  simp only[DataW.TrodAll]at h ⊢
  obtain⟨p,q,⟨fuel,h1⟩,h2,rfl⟩:=h
  simp only[xv,List.all_cons,Bool.and_eq_true,decide_eq_true_eq]at hr
  refine⟨p,q,⟨fuel,DataW.trod_stays (kids_book hl hr.1.1) (book_sized hr.1.1) (fun h=>by cases h) ⟨hr.1.2,book_self t⟩ h1 (fun x hx=>MA hk (hlt x (List.mem_append_left _ hx))) (fun x hx=>hsp x (List.mem_append_left _ hx))⟩,?_,rfl⟩
  exact yM hl hk (by simpa[xv]using hr.2) h2 (fun x hx=>hlt x (List.mem_append_right _ hx)) (fun x hx=>hsp x (List.mem_append_right _ hx))
 |[],_::_,_,_,_,h,_,_=>h.elim
 |[],[],_::_,_,_,h,_,_=>h.elim
 |_::_,[],_,_,_,h,_,_=>h.elim
 |_::_,_::_,[],_,_,h,_,_=>h.elim
end
theorem post_true {H:Type}{enc:TypeId×Value→H}{P:Program}{f:Func}{s:ChangeSpec}{tb:TypeId}(hl:laidOutB P=true)(hr:xv P f.params.toList=true)(hb:P.underlying tb=some .bool)(hf:f.resultTypes= #[tb])
  (hvs:s.vars=[]) {W W':World} {args:Array Value} {ds gs:List (DataW H)} {before:List MemPlace}
  (hW:DataW.Whole enc P f.params.toList s.vars false W args.toList ds gs before) (hs1:(s.fn H ds).results=[.lit (.bool true)]) (hs2:(s.fn H ds).args=ds) (hs3:(s.fn H ds).vars=[]) (hk:xU W W'):
  s.post enc P f false true false false W args (.bool true) W':=by
 have hW':=hW
 obtain⟨p,q,hA,hV,rfl,_,_⟩:=hW
 have hlt:=fun x hx=>hW'.lt x hx
 rw[hvs]at hV
 obtain⟨rfl,rfl⟩:=trodVars_none hV
 simp only[List.append_nil]at hW' hlt
 refine Mo (pa:=p) (pv:=[]) hW' ?_ ?_ ?_ (by simp) hk ?_
 ·intro b sp hd
  simp only[List.append_nil,hs1,hf]
  exact trodAll_cons_mk (shut_bool hb _) trodAll_mk0
 ·intro sp hsp
  simp only[List.append_nil,hs2]
  exact yM hl hk hr hA hlt hsp
 ·intro sp hsp
  simp only[List.append_nil,hs3,hvs]
  rfl
 ·exact ok_one hf rfl (okWide_bool_mk hb _)
end Go.Abs.Ga
set_option linter.unusedVariables false
set_option linter.unusedSimpArgs false
set_option maxRecDepth 100000
namespace Go.Abs
open Go Go.Proofs
section
variable {α β:Type}
theorem aa {a:α}{k:α→Option β}:opt (some a) k=k a:=rfl
theorem ay {k:Option β}:aB true k=k:=rfl
theorem am {k:IntKind}{n:Int}:aF k (LV.int k n)=some n:=by simp[aF]
theorem ah {s:List UInt8}:aL (LV.str s)=some s:=rfl
theorem ae {b:Bool}:aM (LV.bool b)=some b:=rfl
theorem aq {l:List LV}:aS (.ltup l)=some l:=rfl
theorem ak {α:Type}{a:α}{r:List α}:aA (a::r)=some (a,r):=rfl
theorem au {l:List CV}:bL (.cv (.sl l))=some l:=rfl
theorem ar {l:List CV}:bL (.osl l)=some l:=rfl
theorem ao {l:List CV}:eX (.osl l)=some l:=rfl
theorem aj {α:Type}:aO ([]:List α)=some ():=rfl
theorem ac {v:LV}{μ:Mu}{k:LV→Mu→Option β}{p:CV→Mu→Option β}:callK (some (.ret v μ)) k p=k v μ:=rfl
theorem eh {v:CV}{μ:Mu}{k:LV→Mu→Option β}{p:CV→Mu→Option β}:callK (some (.panic v μ)) k p=p v μ:=rfl
theorem cu {x:Int}(h0: -9223372036854775808≤x)(h1:x<9223372036854775808):IntKind.wrap .i64 x=x:=by
 have e1:(2^IntKind.i64.bits:Int)=18446744073709551616:=by decide
 have e2:(2^(IntKind.i64.bits-1):Int)=9223372036854775808:=by decide
 have e3:IntKind.i64.signed=true:=rfl
 unfold IntKind.wrap
 simp only[e1,e2,e3,Bool.true_and,decide_eq_true_eq]
 split<;>omega
theorem Jt {x:Int}(h0:0≤x)(h1:x<256):IntKind.wrap .u8 x=x:=by
 have e1:(2^IntKind.u8.bits:Int)=256:=by decide
 have e3:IntKind.u8.signed=false:=rfl
 unfold IntKind.wrap
 simp only[e1,e3,Bool.false_and]
 simp only[Bool.false_eq_true,if_false]
 omega
theorem jG {l:List UInt8}{i:Nat}:bn l (i:Int)=l[i]? :=by
 simp[bn]
theorem e7 {l:List CV}{i:Nat}:bY l (i:Int)=l[i]? :=by
 simp[bY]
theorem fA {a:LV}{r:List LV}:bB E.P 9 (.cells (a::r)) 0=some (strip a):=by kernel_rfl
theorem vU {a b:LV}{r:List LV}:bB E.P 4 (.cells (a::b::r)) 1=some (strip b):=by kernel_rfl
theorem dq {s:List UInt8}:strip (LV.str s)=LV.str s:=rfl
theorem qG {s:Bool}:strip (LV.bool s)=LV.bool s:=rfl
theorem cS: ∀(l:List UInt8),bk (aW l)=some l
 |[]=>rfl
 |b::r=>by
  have ih:=cS r
  have e:aW (b::r)=CV.int .u8 (b.toNat:Int)::aW r:=rfl
  rw[e]
  simp only[bk]
  rw[ih]
  have h:=b.toNat_lt
  have h2:(decide ((0:Int)≤(b.toNat:Int))&&decide ((b.toNat:Int)<256))=true:=by simp;omega
  rw[h2]
  simp[opt]
theorem n0 (a b:List UInt8):aW (a++b)=aW a++aW b:=by simp[aW]
theorem fE (a:List UInt8):(aW a).length=a.length:=by simp[aW]
theorem i8: ∀(l:List UInt8),fK 1 (aW l)=true
 |[]=>rfl
 |b::r=>by
  have e:aW (b::r)=CV.int .u8 (b.toNat:Int)::aW r:=rfl
  rw[e]
  simp only[fK]
  have:fq 1 (CV.int .u8 (b.toNat:Int))=true:=rfl
  rw[this]
  exact i8 r
theorem tS {a b:List UInt8}(h:a.length+b.length≤1099511627776):fL 1 (aW a) (aW b)=true:=by
 unfold fL
 rw[i8,i8,fE,fE]
 simp[bd,h]
def bw (l:List (List UInt8)):List CV:=l.map CV.str
theorem g7 {s:List UInt8}:aL (LV.cv (CV.str s))=some s:=rfl
theorem bq {n:Nat}(h:n≤1099511627776):bd n=true:=by simp[bd,h]
theorem dG {f:FuncId}{g:fO}{args:List LV}{μ:Mu}{out:Out}(h:E.prim f=some g)(hg:g args μ=some out):(ev E).call f args μ=some out:=by
 refine aJ ?_
 unfold aC
 rw[h]
 exact hg
theorem Hx {s:List UInt8}{μ:Mu}(h:s.length≤1000000):(ev E).call 91 [LV.str s] μ=some (.ret (LV.str (Lib.toUpperD s)) μ):=by
 refine dG (g:=qy) (by kernel_rfl) ?_
 have:dA s=true:=by simp[dA,h]
 simp only[qy,tF,ak,aa,aj,ah,this,ay]
theorem PK {s:List UInt8}{μ:Mu}{c:UInt8}(hc:c.toNat<128):(ev E).call 62 [LV.str s,LV.str [c]] μ=some (.ret (LV.str (Lib.trimLeftB s c)) μ):=by
 refine dG (g:=nQ) (by kernel_rfl) ?_
 have:decide (c.toNat<128)=true:=by simp[hc]
 simp only[nQ,fM,ak,aa,aj,ah,yw,this,ay]
theorem PL {s:List UInt8}{μ:Mu}{c:UInt8}(hc:c.toNat<128)(h:s.length≤1000000):(ev E).call 63 [LV.str s,LV.str [c]] μ=some (.ret (LV.str (Lib.trimRightB s c)) μ):=by
 refine dG (g:=mm) (by kernel_rfl) ?_
 have:(decide (c.toNat<128)&&dA s)=true:=by simp[hc,dA,h]
 simp only[mm,fM,ak,aa,aj,ah,yw,this,ay]
theorem Aa {s:List UInt8}{μ:Mu}(h:s.length≤1000000):(ev E).call 45 [LV.str s] μ=some (.ret (ww 146 s) μ):=by
 refine dG (g:=Ak 146) (by kernel_rfl) ?_
 have:dA s=true:=by simp[dA,h]
 simp only[Ak,tF,ak,aa,aj,ah,this,ay]
theorem PM {n:Int}{μ:Mu}(h0: -9223372036854775808≤n)(h1:n≤9223372036854775807):(ev E).call 66 [LV.int .i64 n] μ=some (.ret (LV.str (Lib.itoa n)) μ):=by
 refine dG (g:=xh) (by kernel_rfl) ?_
 have:(decide (-9223372036854775808≤n)&&decide (n≤9223372036854775807))=true:=by simp[h0,h1]
 simp only[xh,ak,aa,aj,am,this,ay]
theorem Sf {s p:List UInt8}{μ:Mu}:(ev E).call 194 [LV.str s,LV.str p] μ=some (.ret (LV.str (Lib.trimPrefix s p)) μ):=by
 refine dG (g:=li) (by kernel_rfl) ?_
 simp only[li,fM,ak,aa,aj,ah]
theorem Sg {s p:List UInt8}{μ:Mu}:(ev E).call 195 [LV.str s,LV.str p] μ=some (.ret (LV.bool (Lib.hasPrefix s p)) μ):=by
 refine dG (g:=ml) (by kernel_rfl) ?_
 simp only[ml,fM,ak,aa,aj,ah]
theorem LC {s p:List UInt8}{μ:Mu}(h:s.length≤1000000):(ev E).call 145 [LV.str s,LV.str p] μ=some (.ret (LV.int .i64 (Lib.index s p)) μ):=by
 refine dG (g:=xg) (by kernel_rfl) ?_
 have:dA s=true:=by simp[dA,h]
 simp only[xg,fM,ak,aa,aj,ah,this,ay]
theorem RX {s p:List UInt8}{μ:Mu}(h:s.length≤1000000):(ev E).call 115 [LV.str s,LV.str p] μ=some (.ret (LV.bool (Lib.contains s p)) μ):=by
 refine dG (g:=nP) (by kernel_rfl) ?_
 have:dA s=true:=by simp[dA,h]
 simp only[nP,fM,ak,aa,aj,ah,this,ay]
theorem TS {s old new:List UInt8}{μ:Mu}(h:s.length≤1000000)(h2:new.length≤1000000)(h1:1≤old.length):(ev E).call 84 [LV.str s,LV.str old,LV.str new] μ=some (.ret (LV.str (Lib.replaceAll s old new)) μ):=by
 refine dG (g:=lh) (by kernel_rfl) ?_
 have:(dA s&&dA new&&decide (1≤old.length))=true:=by simp[dA,h,h1,h2]
 simp only[lh,Al,ak,aa,aj,ah,this,ay]
end
end Go.Abs
