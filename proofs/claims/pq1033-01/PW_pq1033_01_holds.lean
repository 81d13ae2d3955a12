import PyProof.Rows.All
import Wide.All
import OpenK.AllK
import Wide.FinOn
import Lean
import PySem.Challenge.RW_pq1033_01
open PySem PySem.W PyProof.Rows
set_option Elab.async false
set_option maxRecDepth 100000
set_option linter.unusedVariables false
set_option genInjectivity false
set_option genSizeOf false
set_option compiler.extract_closed false
namespace Mine

/-! the program's parts, named by their place -/
noncomputable abbrev pw : Program := PySem.Challenge.pw_pq1033_01
noncomputable def nth : List Stmt → Nat → Stmt
  | [], _ => .Pass (.mk 0 0 0 0)
  | s :: _, 0 => s
  | _ :: r, n + 1 => nth r n
noncomputable def stAt (i : Nat) : Stmt := nth PySem.Challenge.pw_pq1033_01.main.body i
noncomputable def inside : Stmt → List Stmt
  | .ClassDef _ _ _ b _ _ _ _ _ _ _ => b
  | _ => []
noncomputable def stIn (i j : Nat) : Stmt := nth (inside (stAt i)) j
noncomputable def argsOf : Stmt → Arguments
  | .FunctionDef _ a _ _ _ _ _ _ _ _ => a
  | _ => .mk [] [] none [] [] none []
noncomputable def bodyOf : Stmt → List Stmt
  | .FunctionDef _ _ b _ _ _ _ _ _ _ => b
  | _ => []
noncomputable def scopeOf : Stmt → Scope
  | .FunctionDef _ _ _ _ _ _ s _ _ _ => s
  | _ => .mk .function [] false false []
noncomputable abbrev fa0 : Arguments := argsOf (stAt 0)
noncomputable abbrev fb0 : List Stmt := bodyOf (stAt 0)
noncomputable abbrev fs0 : Scope := scopeOf (stAt 0)
noncomputable abbrev fa1 : Arguments := argsOf (stIn 2 0)
noncomputable abbrev fb1 : List Stmt := bodyOf (stIn 2 0)
noncomputable abbrev fs1 : Scope := scopeOf (stIn 2 0)
noncomputable abbrev fa2 : Arguments := argsOf (stIn 5 0)
noncomputable abbrev fb2 : List Stmt := bodyOf (stIn 5 0)
noncomputable abbrev fs2 : Scope := scopeOf (stIn 5 0)
noncomputable abbrev fa3 : Arguments := argsOf (stIn 6 0)
noncomputable abbrev fb3 : List Stmt := bodyOf (stIn 6 0)
noncomputable abbrev fs3 : Scope := scopeOf (stIn 6 0)
noncomputable abbrev fa4 : Arguments := argsOf (stIn 6 1)
noncomputable abbrev fb4 : List Stmt := bodyOf (stIn 6 1)
noncomputable abbrev fs4 : Scope := scopeOf (stIn 6 1)
noncomputable abbrev fa5 : Arguments := argsOf (stIn 6 2)
noncomputable abbrev fb5 : List Stmt := bodyOf (stIn 6 2)
noncomputable abbrev fs5 : Scope := scopeOf (stIn 6 2)
noncomputable abbrev fa6 : Arguments := argsOf (stIn 6 3)
noncomputable abbrev fb6 : List Stmt := bodyOf (stIn 6 3)
noncomputable abbrev fs6 : Scope := scopeOf (stIn 6 3)
noncomputable abbrev fa7 : Arguments := argsOf (stIn 6 4)
noncomputable abbrev fb7 : List Stmt := bodyOf (stIn 6 4)
noncomputable abbrev fs7 : Scope := scopeOf (stIn 6 4)
noncomputable abbrev fa8 : Arguments := argsOf (stIn 6 5)
noncomputable abbrev fb8 : List Stmt := bodyOf (stIn 6 5)
noncomputable abbrev fs8 : Scope := scopeOf (stIn 6 5)
noncomputable abbrev fa9 : Arguments := argsOf (stIn 6 6)
noncomputable abbrev fb9 : List Stmt := bodyOf (stIn 6 6)
noncomputable abbrev fs9 : Scope := scopeOf (stIn 6 6)
noncomputable abbrev fa10 : Arguments := argsOf (stIn 7 0)
noncomputable abbrev fb10 : List Stmt := bodyOf (stIn 7 0)
noncomputable abbrev fs10 : Scope := scopeOf (stIn 7 0)
noncomputable abbrev fa11 : Arguments := argsOf (stIn 8 0)
noncomputable abbrev fb11 : List Stmt := bodyOf (stIn 8 0)
noncomputable abbrev fs11 : Scope := scopeOf (stIn 8 0)
noncomputable abbrev fa12 : Arguments := argsOf (stIn 9 0)
noncomputable abbrev fb12 : List Stmt := bodyOf (stIn 9 0)
noncomputable abbrev fs12 : Scope := scopeOf (stIn 9 0)
noncomputable abbrev fa13 : Arguments := argsOf (stIn 10 0)
noncomputable abbrev fb13 : List Stmt := bodyOf (stIn 10 0)
noncomputable abbrev fa14 : Arguments := argsOf (stIn 12 0)
noncomputable abbrev fb14 : List Stmt := bodyOf (stIn 12 0)
noncomputable abbrev fs14 : Scope := scopeOf (stIn 12 0)
noncomputable abbrev fa15 : Arguments := argsOf (stIn 12 1)
noncomputable abbrev fb15 : List Stmt := bodyOf (stIn 12 1)
noncomputable abbrev fa16 : Arguments := argsOf (stIn 12 2)
noncomputable abbrev fb16 : List Stmt := bodyOf (stIn 12 2)
noncomputable abbrev fs16 : Scope := scopeOf (stIn 12 2)
noncomputable abbrev fa17 : Arguments := argsOf (stIn 12 3)
noncomputable abbrev fb17 : List Stmt := bodyOf (stIn 12 3)
noncomputable abbrev fa18 : Arguments := argsOf (stIn 12 4)
noncomputable abbrev fb18 : List Stmt := bodyOf (stIn 12 4)
noncomputable abbrev fa19 : Arguments := argsOf (stIn 12 5)
noncomputable abbrev fb19 : List Stmt := bodyOf (stIn 12 5)
noncomputable abbrev fs19 : Scope := scopeOf (stIn 12 5)
noncomputable abbrev fa20 : Arguments := argsOf (stIn 12 6)
noncomputable abbrev fb20 : List Stmt := bodyOf (stIn 12 6)
noncomputable abbrev fs20 : Scope := scopeOf (stIn 12 6)
noncomputable abbrev fa21 : Arguments := argsOf (stIn 12 7)
noncomputable abbrev fb21 : List Stmt := bodyOf (stIn 12 7)
noncomputable abbrev fs21 : Scope := scopeOf (stIn 12 7)
noncomputable abbrev fa22 : Arguments := argsOf (stIn 12 8)
noncomputable abbrev fb22 : List Stmt := bodyOf (stIn 12 8)
noncomputable abbrev fs22 : Scope := scopeOf (stIn 12 8)
noncomputable abbrev fa23 : Arguments := argsOf (stIn 12 9)
noncomputable abbrev fb23 : List Stmt := bodyOf (stIn 12 9)
noncomputable abbrev fs23 : Scope := scopeOf (stIn 12 9)
noncomputable abbrev fa24 : Arguments := argsOf (stAt 14)
noncomputable abbrev fb24 : List Stmt := bodyOf (stAt 14)
noncomputable abbrev fs24 : Scope := scopeOf (stAt 14)
noncomputable abbrev fa25 : Arguments := argsOf (stAt 15)
noncomputable abbrev fb25 : List Stmt := bodyOf (stAt 15)
noncomputable abbrev fs25 : Scope := scopeOf (stAt 15)
noncomputable abbrev fa26 : Arguments := argsOf (stIn 17 0)
noncomputable abbrev fb26 : List Stmt := bodyOf (stIn 17 0)
noncomputable abbrev fs26 : Scope := scopeOf (stIn 17 0)
noncomputable abbrev fa27 : Arguments := argsOf (stIn 18 0)
noncomputable abbrev fb27 : List Stmt := bodyOf (stIn 18 0)
noncomputable abbrev fs27 : Scope := scopeOf (stIn 18 0)
noncomputable abbrev fa28 : Arguments := argsOf (stAt 20)
noncomputable abbrev fb28 : List Stmt := bodyOf (stAt 20)
noncomputable abbrev fs28 : Scope := scopeOf (stAt 20)
noncomputable abbrev fa29 : Arguments := argsOf (stAt 21)
noncomputable abbrev fb29 : List Stmt := bodyOf (stAt 21)
noncomputable abbrev fs29 : Scope := scopeOf (stAt 21)
noncomputable abbrev fa30 : Arguments := argsOf (stIn 26 0)
noncomputable abbrev fb30 : List Stmt := bodyOf (stIn 26 0)
noncomputable abbrev fa31 : Arguments := argsOf (stIn 26 1)
noncomputable abbrev fb31 : List Stmt := bodyOf (stIn 26 1)
noncomputable abbrev fa32 : Arguments := argsOf (stIn 26 2)
noncomputable abbrev fb32 : List Stmt := bodyOf (stIn 26 2)
noncomputable abbrev fa33 : Arguments := argsOf (stIn 27 0)
noncomputable abbrev fb33 : List Stmt := bodyOf (stIn 27 0)
noncomputable abbrev fa34 : Arguments := argsOf (stIn 27 1)
noncomputable abbrev fb34 : List Stmt := bodyOf (stIn 27 1)
noncomputable abbrev fa35 : Arguments := argsOf (stIn 28 0)
noncomputable abbrev fb35 : List Stmt := bodyOf (stIn 28 0)
noncomputable abbrev fs35 : Scope := scopeOf (stIn 28 0)
noncomputable abbrev fa36 : Arguments := argsOf (stIn 28 1)
noncomputable abbrev fb36 : List Stmt := bodyOf (stIn 28 1)
noncomputable abbrev fa37 : Arguments := argsOf (stIn 28 2)
noncomputable abbrev fb37 : List Stmt := bodyOf (stIn 28 2)
noncomputable abbrev fs37 : Scope := scopeOf (stIn 28 2)
noncomputable abbrev fa38 : Arguments := argsOf (stIn 28 3)
noncomputable abbrev fb38 : List Stmt := bodyOf (stIn 28 3)
noncomputable abbrev fa39 : Arguments := argsOf (stIn 28 4)
noncomputable abbrev fb39 : List Stmt := bodyOf (stIn 28 4)
noncomputable abbrev fs39 : Scope := scopeOf (stIn 28 4)
noncomputable abbrev fa40 : Arguments := argsOf (stIn 28 5)
noncomputable abbrev fb40 : List Stmt := bodyOf (stIn 28 5)
noncomputable abbrev fs40 : Scope := scopeOf (stIn 28 5)
noncomputable abbrev fa41 : Arguments := argsOf (stIn 28 6)
noncomputable abbrev fb41 : List Stmt := bodyOf (stIn 28 6)
noncomputable abbrev fa42 : Arguments := argsOf (stIn 28 7)
noncomputable abbrev fb42 : List Stmt := bodyOf (stIn 28 7)
noncomputable abbrev fa43 : Arguments := argsOf (stIn 28 8)
noncomputable abbrev fb43 : List Stmt := bodyOf (stIn 28 8)
noncomputable abbrev fa44 : Arguments := argsOf (stIn 28 9)
noncomputable abbrev fb44 : List Stmt := bodyOf (stIn 28 9)
noncomputable abbrev fs44 : Scope := scopeOf (stIn 28 9)
noncomputable abbrev fa45 : Arguments := argsOf (stAt 29)
noncomputable abbrev fb45 : List Stmt := bodyOf (stAt 29)
noncomputable abbrev fs45 : Scope := scopeOf (stAt 29)
noncomputable abbrev fa46 : Arguments := argsOf (stAt 30)
noncomputable abbrev fb46 : List Stmt := bodyOf (stAt 30)
noncomputable abbrev fs46 : Scope := scopeOf (stAt 30)
noncomputable abbrev fa47 : Arguments := argsOf (stAt 31)
noncomputable abbrev fb47 : List Stmt := bodyOf (stAt 31)
noncomputable abbrev fs47 : Scope := scopeOf (stAt 31)
noncomputable abbrev fa48 : Arguments := argsOf (stAt 32)
noncomputable abbrev fb48 : List Stmt := bodyOf (stAt 32)
noncomputable abbrev fs48 : Scope := scopeOf (stAt 32)
noncomputable abbrev fa49 : Arguments := argsOf (stAt 33)
noncomputable abbrev fb49 : List Stmt := bodyOf (stAt 33)
noncomputable abbrev fs49 : Scope := scopeOf (stAt 33)
noncomputable abbrev fa50 : Arguments := argsOf (stAt 34)
noncomputable abbrev fb50 : List Stmt := bodyOf (stAt 34)
noncomputable abbrev fs50 : Scope := scopeOf (stAt 34)
noncomputable abbrev fa51 : Arguments := argsOf (stAt 35)
noncomputable abbrev fb51 : List Stmt := bodyOf (stAt 35)
noncomputable abbrev fs51 : Scope := scopeOf (stAt 35)
noncomputable abbrev fa52 : Arguments := argsOf (stAt 36)
noncomputable abbrev fb52 : List Stmt := bodyOf (stAt 36)
noncomputable abbrev fs52 : Scope := scopeOf (stAt 36)
noncomputable abbrev fa53 : Arguments := argsOf (stAt 37)
noncomputable abbrev fb53 : List Stmt := bodyOf (stAt 37)
noncomputable abbrev fs53 : Scope := scopeOf (stAt 37)
noncomputable abbrev fa54 : Arguments := argsOf (stIn 39 0)
noncomputable abbrev fb54 : List Stmt := bodyOf (stIn 39 0)
noncomputable abbrev fs54 : Scope := scopeOf (stIn 39 0)
noncomputable abbrev fa55 : Arguments := argsOf (stIn 39 1)
noncomputable abbrev fb55 : List Stmt := bodyOf (stIn 39 1)
noncomputable abbrev fa56 : Arguments := argsOf (stIn 41 0)
noncomputable abbrev fb56 : List Stmt := bodyOf (stIn 41 0)
noncomputable abbrev fs56 : Scope := scopeOf (stIn 41 0)
noncomputable abbrev fa57 : Arguments := argsOf (stIn 41 1)
noncomputable abbrev fb57 : List Stmt := bodyOf (stIn 41 1)
noncomputable abbrev fs57 : Scope := scopeOf (stIn 41 1)
noncomputable abbrev fa58 : Arguments := argsOf (stIn 41 2)
noncomputable abbrev fb58 : List Stmt := bodyOf (stIn 41 2)
noncomputable abbrev fs58 : Scope := scopeOf (stIn 41 2)
noncomputable abbrev fa59 : Arguments := argsOf (stIn 41 3)
noncomputable abbrev fb59 : List Stmt := bodyOf (stIn 41 3)
noncomputable abbrev fa60 : Arguments := argsOf (stIn 41 4)
noncomputable abbrev fb60 : List Stmt := bodyOf (stIn 41 4)
noncomputable abbrev fs60 : Scope := scopeOf (stIn 41 4)
noncomputable abbrev fa61 : Arguments := argsOf (stIn 41 5)
noncomputable abbrev fb61 : List Stmt := bodyOf (stIn 41 5)
noncomputable abbrev fa62 : Arguments := argsOf (stIn 41 6)
noncomputable abbrev fb62 : List Stmt := bodyOf (stIn 41 6)
noncomputable abbrev fs62 : Scope := scopeOf (stIn 41 6)
noncomputable abbrev fa63 : Arguments := argsOf (stIn 41 7)
noncomputable abbrev fb63 : List Stmt := bodyOf (stIn 41 7)
noncomputable abbrev fa64 : Arguments := argsOf (stIn 41 8)
noncomputable abbrev fb64 : List Stmt := bodyOf (stIn 41 8)
noncomputable abbrev fa65 : Arguments := argsOf (stIn 41 9)
noncomputable abbrev fb65 : List Stmt := bodyOf (stIn 41 9)
noncomputable abbrev fa66 : Arguments := argsOf (stIn 41 10)
noncomputable abbrev fb66 : List Stmt := bodyOf (stIn 41 10)
noncomputable abbrev fa67 : Arguments := argsOf (stIn 41 11)
noncomputable abbrev fb67 : List Stmt := bodyOf (stIn 41 11)
noncomputable abbrev fs67 : Scope := scopeOf (stIn 41 11)
noncomputable abbrev fa68 : Arguments := argsOf (stIn 41 12)
noncomputable abbrev fb68 : List Stmt := bodyOf (stIn 41 12)
noncomputable abbrev fa69 : Arguments := argsOf (stIn 41 13)
noncomputable abbrev fb69 : List Stmt := bodyOf (stIn 41 13)
noncomputable abbrev fs69 : Scope := scopeOf (stIn 41 13)
noncomputable abbrev fa70 : Arguments := argsOf (stIn 41 14)
noncomputable abbrev fb70 : List Stmt := bodyOf (stIn 41 14)
noncomputable abbrev fa71 : Arguments := argsOf (stIn 41 15)
noncomputable abbrev fb71 : List Stmt := bodyOf (stIn 41 15)
noncomputable abbrev fs71 : Scope := scopeOf (stIn 41 15)
noncomputable abbrev fa72 : Arguments := argsOf (stIn 41 16)
noncomputable abbrev fb72 : List Stmt := bodyOf (stIn 41 16)
noncomputable abbrev fa73 : Arguments := argsOf (stIn 41 17)
noncomputable abbrev fb73 : List Stmt := bodyOf (stIn 41 17)
noncomputable abbrev fa74 : Arguments := argsOf (stIn 41 18)
noncomputable abbrev fb74 : List Stmt := bodyOf (stIn 41 18)
noncomputable abbrev fa75 : Arguments := argsOf (stIn 41 19)
noncomputable abbrev fb75 : List Stmt := bodyOf (stIn 41 19)
noncomputable abbrev fa76 : Arguments := argsOf (stIn 41 20)
noncomputable abbrev fb76 : List Stmt := bodyOf (stIn 41 20)
noncomputable abbrev fs76 : Scope := scopeOf (stIn 41 20)
noncomputable abbrev fa77 : Arguments := argsOf (stIn 41 21)
noncomputable abbrev fb77 : List Stmt := bodyOf (stIn 41 21)
noncomputable abbrev fs77 : Scope := scopeOf (stIn 41 21)
noncomputable abbrev fa78 : Arguments := argsOf (stIn 41 22)
noncomputable abbrev fb78 : List Stmt := bodyOf (stIn 41 22)
noncomputable abbrev fs78 : Scope := scopeOf (stIn 41 22)
noncomputable abbrev fa79 : Arguments := argsOf (stIn 41 23)
noncomputable abbrev fb79 : List Stmt := bodyOf (stIn 41 23)
noncomputable abbrev fs79 : Scope := scopeOf (stIn 41 23)
noncomputable abbrev fa80 : Arguments := argsOf (stIn 41 24)
noncomputable abbrev fb80 : List Stmt := bodyOf (stIn 41 24)
noncomputable abbrev fa81 : Arguments := argsOf (stIn 41 25)
noncomputable abbrev fb81 : List Stmt := bodyOf (stIn 41 25)
noncomputable abbrev fs81 : Scope := scopeOf (stIn 41 25)
noncomputable abbrev fa82 : Arguments := argsOf (stIn 41 26)
noncomputable abbrev fb82 : List Stmt := bodyOf (stIn 41 26)
noncomputable abbrev fs82 : Scope := scopeOf (stIn 41 26)
noncomputable abbrev fa83 : Arguments := argsOf (stIn 41 27)
noncomputable abbrev fb83 : List Stmt := bodyOf (stIn 41 27)
noncomputable abbrev fs83 : Scope := scopeOf (stIn 41 27)
noncomputable abbrev fa84 : Arguments := argsOf (stIn 41 28)
noncomputable abbrev fb84 : List Stmt := bodyOf (stIn 41 28)
noncomputable abbrev fs84 : Scope := scopeOf (stIn 41 28)
noncomputable abbrev fa85 : Arguments := argsOf (stIn 41 29)
noncomputable abbrev fb85 : List Stmt := bodyOf (stIn 41 29)
noncomputable abbrev fa86 : Arguments := argsOf (stIn 41 30)
noncomputable abbrev fb86 : List Stmt := bodyOf (stIn 41 30)
noncomputable abbrev fs86 : Scope := scopeOf (stIn 41 30)
noncomputable abbrev fa87 : Arguments := argsOf (stIn 41 31)
noncomputable abbrev fb87 : List Stmt := bodyOf (stIn 41 31)
noncomputable abbrev fs87 : Scope := scopeOf (stIn 41 31)
noncomputable abbrev fa88 : Arguments := argsOf (stIn 41 32)
noncomputable abbrev fb88 : List Stmt := bodyOf (stIn 41 32)
noncomputable abbrev fs88 : Scope := scopeOf (stIn 41 32)
noncomputable abbrev fa89 : Arguments := argsOf (stIn 41 33)
noncomputable abbrev fb89 : List Stmt := bodyOf (stIn 41 33)
noncomputable abbrev fa90 : Arguments := argsOf (stIn 41 34)
noncomputable abbrev fb90 : List Stmt := bodyOf (stIn 41 34)
noncomputable abbrev fa91 : Arguments := argsOf (stIn 41 35)
noncomputable abbrev fb91 : List Stmt := bodyOf (stIn 41 35)
noncomputable abbrev fa92 : Arguments := argsOf (stIn 41 36)
noncomputable abbrev fb92 : List Stmt := bodyOf (stIn 41 36)
noncomputable abbrev fa93 : Arguments := argsOf (stIn 41 37)
noncomputable abbrev fb93 : List Stmt := bodyOf (stIn 41 37)
noncomputable abbrev fs93 : Scope := scopeOf (stIn 41 37)
noncomputable abbrev fa94 : Arguments := argsOf (stIn 41 38)
noncomputable abbrev fb94 : List Stmt := bodyOf (stIn 41 38)
noncomputable abbrev fs94 : Scope := scopeOf (stIn 41 38)
noncomputable abbrev fa95 : Arguments := argsOf (stIn 41 39)
noncomputable abbrev fb95 : List Stmt := bodyOf (stIn 41 39)
noncomputable abbrev fs95 : Scope := scopeOf (stIn 41 39)
noncomputable abbrev fa96 : Arguments := argsOf (stIn 41 40)
noncomputable abbrev fb96 : List Stmt := bodyOf (stIn 41 40)
noncomputable abbrev fa97 : Arguments := argsOf (stIn 41 41)
noncomputable abbrev fb97 : List Stmt := bodyOf (stIn 41 41)
noncomputable abbrev fs97 : Scope := scopeOf (stIn 41 41)
noncomputable abbrev fa98 : Arguments := argsOf (stIn 41 42)
noncomputable abbrev fb98 : List Stmt := bodyOf (stIn 41 42)
noncomputable abbrev fa99 : Arguments := argsOf (stIn 41 43)
noncomputable abbrev fb99 : List Stmt := bodyOf (stIn 41 43)
noncomputable abbrev fs99 : Scope := scopeOf (stIn 41 43)
noncomputable abbrev fa100 : Arguments := argsOf (stIn 41 44)
noncomputable abbrev fb100 : List Stmt := bodyOf (stIn 41 44)
noncomputable abbrev fs100 : Scope := scopeOf (stIn 41 44)
noncomputable abbrev fa101 : Arguments := argsOf (stIn 41 45)
noncomputable abbrev fb101 : List Stmt := bodyOf (stIn 41 45)
noncomputable abbrev fs101 : Scope := scopeOf (stIn 41 45)
noncomputable abbrev fa102 : Arguments := argsOf (stIn 41 46)
noncomputable abbrev fb102 : List Stmt := bodyOf (stIn 41 46)
noncomputable abbrev fs102 : Scope := scopeOf (stIn 41 46)
noncomputable abbrev fa103 : Arguments := argsOf (stIn 41 47)
noncomputable abbrev fb103 : List Stmt := bodyOf (stIn 41 47)
noncomputable abbrev fa104 : Arguments := argsOf (stIn 41 48)
noncomputable abbrev fb104 : List Stmt := bodyOf (stIn 41 48)
noncomputable abbrev fs104 : Scope := scopeOf (stIn 41 48)
noncomputable abbrev fa105 : Arguments := argsOf (stIn 41 49)
noncomputable abbrev fb105 : List Stmt := bodyOf (stIn 41 49)
noncomputable abbrev fs105 : Scope := scopeOf (stIn 41 49)
noncomputable abbrev fa106 : Arguments := argsOf (stIn 41 50)
noncomputable abbrev fb106 : List Stmt := bodyOf (stIn 41 50)
noncomputable abbrev fs106 : Scope := scopeOf (stIn 41 50)
noncomputable abbrev fa107 : Arguments := argsOf (stAt 44)
noncomputable abbrev fb107 : List Stmt := bodyOf (stAt 44)
noncomputable abbrev fs107 : Scope := scopeOf (stAt 44)
noncomputable abbrev fa108 : Arguments := argsOf (stAt 45)
noncomputable abbrev fb108 : List Stmt := bodyOf (stAt 45)
noncomputable abbrev fs108 : Scope := scopeOf (stAt 45)
noncomputable abbrev fa109 : Arguments := argsOf (stAt 46)
noncomputable abbrev fb109 : List Stmt := bodyOf (stAt 46)
noncomputable abbrev fs109 : Scope := scopeOf (stAt 46)
noncomputable abbrev fa110 : Arguments := argsOf (stAt 47)
noncomputable abbrev fb110 : List Stmt := bodyOf (stAt 47)
noncomputable abbrev fs110 : Scope := scopeOf (stAt 47)
noncomputable abbrev fa111 : Arguments := argsOf (stAt 48)
noncomputable abbrev fb111 : List Stmt := bodyOf (stAt 48)
noncomputable abbrev fs111 : Scope := scopeOf (stAt 48)
noncomputable abbrev o0 (P : Params) : Obj := (.mk (.type "code") none (.fields #[(.str (.ofString "<module>") 182), (.str (.ofString "<module>") 183), (.str (.ofString "/claim/cut.py") 184), (.int 1 0), (.int 0 0), (.int 0 0), (.int 0 0), (.int 0 0), (.ref 11), (.bool false), (.int 181 0), (.ref 12), .none, .none, .none, .none, (.int 185 0), (.int 1 0), (.str (.ofString "/claim/cut.py") 186)]) #[])
noncomputable abbrev o1 (P : Params) : Obj := (.mk (.type "frame") none .plain #[(some (.ref 13)), (some (.ref 3)), (some (.ref 3)), none, (some (.str (.ofString "__main__") 164)), none, (some (.ref 0))])
noncomputable abbrev o2 (P : Params) : Obj := (.mk (.type "dict") none (.dict #[(.mk (PyData.keyHash P (.ofString "__name__")) (.str (.ofString "__name__") 165) (.str (.ofString "scheme.errors") 588)), (.mk (PyData.keyHash P (.ofString "__doc__")) (.str (.ofString "__doc__") 166) .none), (.mk (PyData.keyHash P (.ofString "__package__")) (.str (.ofString "__package__") 167) .none), (.mk (PyData.keyHash P (.ofString "__loader__")) (.str (.ofString "__loader__") 168) (.builtin "__main__.__loader__#opaque")), (.mk (PyData.keyHash P (.ofString "__spec__")) (.str (.ofString "__spec__") 169) .none), (.mk (PyData.keyHash P (.ofString "__annotations__")) (.str (.ofString "__annotations__") 170) (.ref 6)), (.mk (PyData.keyHash P (.ofString "__builtins__")) (.str (.ofString "__builtins__") 171) (.ref 4)), (.mk (PyData.keyHash P (.ofString "__file__")) (.str (.ofString "__file__") 173) (.str (.ofString "/claim/cut.py") 172)), (.mk (PyData.keyHash P (.ofString "__cached__")) (.str (.ofString "__cached__") 174) .none), (.mk (PyData.keyHash P (.ofString "_wall")) (.str (.ofString "_wall") 193) (.ref 21)), (.mk (PyData.keyHash P (.ofString "Special")) (.str (.ofString "Special") 224) (.ref 38)), (.mk (PyData.keyHash P (.ofString "EMPTY")) (.str (.ofString "EMPTY") 230) (.ref 44)), (.mk (PyData.keyHash P (.ofString "UNSPECIFIED")) (.str (.ofString "UNSPECIFIED") 236) (.ref 47)), (.mk (PyData.keyHash P (.ofString "Symbol")) (.str (.ofString "Symbol") 267) (.ref 65)), (.mk (PyData.keyHash P (.ofString "SymbolTable")) (.str (.ofString "SymbolTable") 345) (.ref 128)), (.mk (PyData.keyHash P (.ofString "Pair")) (.str (.ofString "Pair") 377) (.ref 149)), (.mk (PyData.keyHash P (.ofString "Char")) (.str (.ofString "Char") 406) (.ref 170)), (.mk (PyData.keyHash P (.ofString "Text")) (.str (.ofString "Text") 436) (.ref 191)), (.mk (PyData.keyHash P (.ofString "PortRef")) (.str (.ofString "PortRef") 465) (.ref 212)), (.mk (PyData.keyHash P (.ofString "Names")) (.str (.ofString "Names") 573) (.ref 296)), (.mk (PyData.keyHash P (.ofString "text_of_codes")) (.str (.ofString "text_of_codes") 581) (.ref 305)), (.mk (PyData.keyHash P (.ofString "string_codes")) (.str (.ofString "string_codes") 587) (.ref 310))] 22) #[])
noncomputable abbrev o3 (P : Params) : Obj := (.mk .none none (.fields #[(.int 1 0), (.int 0 0), (.ref 20), (.int 5 0), (.int 0 0), (.ref 27), (.int 11 0), (.int 0 0), (.ref 54), (.int 16 0), (.int 0 0), (.ref 75), (.int 46 0), (.int 0 0), (.ref 138), (.int 52 0), (.int 0 0), (.ref 159), (.int 56 0), (.int 0 0), (.ref 180), (.int 61 0), (.int 0 0), (.ref 201), (.int 66 0), (.int 0 0), (.ref 222), (.int 105 0), (.int 0 0), (.ref 304), (.int 107 0), (.int 0 0), (.ref 309)]) #[])
noncomputable abbrev o4 (P : Params) : Obj := (.mk (.type "tuple") none (.seq #[(.str (.ofString "k") 190)] 0) #[])
noncomputable abbrev o5 (P : Params) : Obj := (.mk .none none (.func (.mk (.ofString "_wall") (.ofString "_wall") fa0 (.stmts fb0) fs0 0 [] .none .none .none .none none .none .none 0)) #[])
noncomputable abbrev o6 (P : Params) : Obj := (.mk (.type "code") none (.fields #[(.str (.ofString "_wall") 187), (.str (.ofString "_wall") 188), (.str (.ofString "/claim/cut.py") 189), (.int 1 0), (.int 1 0), (.int 0 0), (.int 0 0), (.int 3 0), (.ref 15), (.bool true), (.int 181 0), (.ref 16), .none, (.ref 17), (.ref 18), (.ref 19), (.int 191 0), (.int 1 0), (.str (.ofString "/claim/cut.py") 192)]) #[])
noncomputable abbrev o7 (P : Params) : Obj := (.mk (.type "function") none (.func (.mk (.ofString "_wall") (.ofString "_wall") fa0 (.stmts fb0) fs0 3 [] .none .none .none (.str (.ofString "__main__") 164) none (.ref 20) .none 0)) #[])
noncomputable abbrev o8 (P : Params) : Obj := (.mk (.type "builtin_function_or_method") none (.fields #[(.builtin "type.__prepare__"), (.type "type")]) #[])
noncomputable abbrev o9 (P : Params) : Obj := (.mk (.type "dict") none (.dict #[(.mk (PyData.keyHash P (.ofString "__module__")) (.str (.ofString "__module__") 203) (.str (.ofString "scheme.data") 194)), (.mk (PyData.keyHash P (.ofString "__qualname__")) (.str (.ofString "__qualname__") 205) (.str (.ofString "Special") 204)), (.mk (PyData.keyHash P (.ofString "__firstlineno__")) (.str (.ofString "__firstlineno__") 207) (.int 5 206)), (.mk (PyData.keyHash P (.ofString "__init__")) (.str (.ofString "__init__") 215) (.ref 35)), (.mk (PyData.keyHash P (.ofString "__static_attributes__")) (.str (.ofString "__static_attributes__") 217) (.ref 36))] 5) #[])
noncomputable abbrev o10 (P : Params) : Obj := (.mk .none none (.fields #[(.int 7 0), (.int 4 0), (.ref 34)]) #[])
noncomputable abbrev o11 (P : Params) : Obj := (.mk (.type "code") none (.fields #[(.str (.ofString "Special") 198), (.str (.ofString "Special") 199), (.str (.ofString "/claim/cut.py") 200), (.int 5 0), (.int 0 0), (.int 0 0), (.int 0 0), (.int 0 0), (.ref 25), (.bool false), (.int 181 0), (.ref 26), .none, .none, .none, .none, (.int 201 0), (.int 5 0), (.str (.ofString "/claim/cut.py") 202)]) #[])
noncomputable abbrev o12 (P : Params) : Obj := (.mk (.type "frame") none .plain #[(some (.ref 27)), (some (.ref 3)), (some (.ref 24)), none, (some (.str (.ofString "scheme.data") 194)), none, (some (.ref 0))])
noncomputable abbrev o13 (P : Params) : Obj := (.mk (.type "tuple") none (.seq #[(.str (.ofString "self") 211), (.str (.ofString "title") 212)] 0) #[])
noncomputable abbrev o14 (P : Params) : Obj := (.mk .none none (.func (.mk (.ofString "__init__") (.ofString "Special.__init__") fa1 (.stmts fb1) fs1 0 [] .none .none .none .none none .none .none 0)) #[])
noncomputable abbrev o15 (P : Params) : Obj := (.mk (.type "code") none (.fields #[(.str (.ofString "__init__") 208), (.str (.ofString "Special.__init__") 209), (.str (.ofString "/claim/cut.py") 210), (.int 7 0), (.int 2 0), (.int 0 0), (.int 0 0), (.int 3 0), (.ref 29), (.bool true), (.int 181 0), (.ref 30), .none, (.ref 31), (.ref 32), (.ref 33), (.int 213 0), (.int 7 0), (.str (.ofString "/claim/cut.py") 214)]) #[])
noncomputable abbrev o16 (P : Params) : Obj := (.mk (.type "function") none (.func (.mk (.ofString "__init__") (.ofString "Special.__init__") fa1 (.stmts fb1) fs1 3 [] .none .none .none (.str (.ofString "scheme.data") 194) none (.ref 34) .none 0)) #[])
noncomputable abbrev o17 (P : Params) : Obj := (.mk (.type "tuple") none (.seq #[(.str (.ofString "title") 216)] 0) #[])
noncomputable abbrev o18 (P : Params) : Obj := (.mk (.type "dict") none (.dict #[(.mk (PyData.keyHash P (.ofString "__module__")) (.str (.ofString "__module__") 203) (.str (.ofString "scheme.data") 194)), (.mk (PyData.keyHash P (.ofString "__firstlineno__")) (.str (.ofString "__firstlineno__") 207) (.int 5 206)), (.mk (PyData.keyHash P (.ofString "__init__")) (.str (.ofString "__init__") 215) (.ref 35)), (.mk (PyData.keyHash P (.ofString "__static_attributes__")) (.str (.ofString "__static_attributes__") 217) (.ref 36)), (.mk (PyData.keyHash P (.ofString "__dict__")) (.str (.ofString "__dict__") 219) (.ref 39)), (.mk (PyData.keyHash P (.ofString "__weakref__")) (.str (.ofString "__weakref__") 221) (.ref 40)), (.mk (PyData.keyHash P (.ofString "__doc__")) (.str (.ofString "__doc__") 222) .none)] 4) #[])
noncomputable abbrev o19 (P : Params) : Obj := (.mk (.type "type") none (.cls (.mk (.ofString "Special") [(.type "object")] [(.ref 38), (.type "object")] 37 (.ofString "Special") true [] [] false none false)) #[none, none, (some (.str (.ofString "Special") 196)), (some (.str (.ofString "Special") 204)), (some (.builtin "object.__new__")), (some (.bool true))])
noncomputable abbrev o20 (P : Params) : Obj := (.mk (.type "getset_descriptor") none (.fields #[(.str (.ofString "__dict__") 218), (.ref 38), (.builtin "function.__dict__"), (.builtin "function.__dict__#set")]) #[])
noncomputable abbrev o21 (P : Params) : Obj := (.mk (.type "getset_descriptor") none (.fields #[(.str (.ofString "__weakref__") 220), (.ref 38), (.builtin "ExceptionGroup.__weakref__"), .none]) #[])
noncomputable abbrev o22 (P : Params) : Obj := (.mk (.type "super") none (.fields #[(.ref 38), (.ref 38), (.ref 38)]) #[])
noncomputable abbrev o23 (P : Params) : Obj := (.mk (.type "builtin_function_or_method") none (.fields #[(.builtin "object.__init_subclass__"), (.ref 38)]) #[])
noncomputable abbrev o24 (P : Params) : Obj := (.mk (.type "dict") none (.dict #[(.mk (PyData.keyHash P (.ofString "title")) (.str (.ofString "title") 229) (.str (.ofString "empty") 225))] 1) #[])
noncomputable abbrev o25 (P : Params) : Obj := (.mk (.ref 38) (some 43) .plain #[])
noncomputable abbrev o26 (P : Params) : Obj := (.mk (.type "frame") none (.dict #[(.mk (PyData.keyHash P (.ofString "self")) (.str (.ofString "self") 226) (.ref 44)), (.mk (PyData.keyHash P (.ofString "title")) (.str (.ofString "title") 227) (.str (.ofString "empty") 225))] 2) #[])
noncomputable abbrev o27 (P : Params) : Obj := (.mk (.type "dict") none (.dict #[(.mk (PyData.keyHash P (.ofString "title")) (.str (.ofString "title") 235) (.str (.ofString "unspecified") 231))] 1) #[])
noncomputable abbrev o28 (P : Params) : Obj := (.mk (.ref 38) (some 46) .plain #[])
noncomputable abbrev o29 (P : Params) : Obj := (.mk (.type "frame") none (.dict #[(.mk (PyData.keyHash P (.ofString "self")) (.str (.ofString "self") 232) (.ref 47)), (.mk (PyData.keyHash P (.ofString "title")) (.str (.ofString "title") 233) (.str (.ofString "unspecified") 231))] 2) #[])
noncomputable abbrev o30 (P : Params) : Obj := (.mk (.type "dict") none (.dict #[(.mk (PyData.keyHash P (.ofString "__module__")) (.str (.ofString "__module__") 244) (.str (.ofString "scheme.data") 194)), (.mk (PyData.keyHash P (.ofString "__qualname__")) (.str (.ofString "__qualname__") 246) (.str (.ofString "Symbol") 245)), (.mk (PyData.keyHash P (.ofString "__firstlineno__")) (.str (.ofString "__firstlineno__") 248) (.int 11 247)), (.mk (PyData.keyHash P (.ofString "__init__")) (.str (.ofString "__init__") 257) (.ref 62)), (.mk (PyData.keyHash P (.ofString "__static_attributes__")) (.str (.ofString "__static_attributes__") 260) (.ref 63))] 5) #[])
noncomputable abbrev o31 (P : Params) : Obj := (.mk .none none (.fields #[(.int 13 0), (.int 4 0), (.ref 61)]) #[])
noncomputable abbrev o32 (P : Params) : Obj := (.mk (.type "code") none (.fields #[(.str (.ofString "Symbol") 239), (.str (.ofString "Symbol") 240), (.str (.ofString "/claim/cut.py") 241), (.int 11 0), (.int 0 0), (.int 0 0), (.int 0 0), (.int 0 0), (.ref 52), (.bool false), (.int 181 0), (.ref 53), .none, .none, .none, .none, (.int 242 0), (.int 11 0), (.str (.ofString "/claim/cut.py") 243)]) #[])
noncomputable abbrev o33 (P : Params) : Obj := (.mk (.type "frame") none .plain #[(some (.ref 54)), (some (.ref 3)), (some (.ref 51)), none, (some (.str (.ofString "scheme.data") 194)), none, (some (.ref 0))])
noncomputable abbrev o34 (P : Params) : Obj := (.mk (.type "tuple") none (.seq #[(.str (.ofString "self") 252), (.str (.ofString "number") 253), (.str (.ofString "text") 254)] 0) #[])
noncomputable abbrev o35 (P : Params) : Obj := (.mk .none none (.func (.mk (.ofString "__init__") (.ofString "Symbol.__init__") fa2 (.stmts fb2) fs2 0 [] .none .none .none .none none .none .none 0)) #[])
noncomputable abbrev o36 (P : Params) : Obj := (.mk (.type "code") none (.fields #[(.str (.ofString "__init__") 249), (.str (.ofString "Symbol.__init__") 250), (.str (.ofString "/claim/cut.py") 251), (.int 13 0), (.int 3 0), (.int 0 0), (.int 0 0), (.int 3 0), (.ref 56), (.bool true), (.int 181 0), (.ref 57), .none, (.ref 58), (.ref 59), (.ref 60), (.int 255 0), (.int 13 0), (.str (.ofString "/claim/cut.py") 256)]) #[])
noncomputable abbrev o37 (P : Params) : Obj := (.mk (.type "function") none (.func (.mk (.ofString "__init__") (.ofString "Symbol.__init__") fa2 (.stmts fb2) fs2 3 [] .none .none .none (.str (.ofString "scheme.data") 194) none (.ref 61) .none 0)) #[])
noncomputable abbrev o38 (P : Params) : Obj := (.mk (.type "tuple") none (.seq #[(.str (.ofString "number") 258), (.str (.ofString "text") 259)] 0) #[])
noncomputable abbrev o39 (P : Params) : Obj := (.mk (.type "dict") none (.dict #[(.mk (PyData.keyHash P (.ofString "__module__")) (.str (.ofString "__module__") 244) (.str (.ofString "scheme.data") 194)), (.mk (PyData.keyHash P (.ofString "__firstlineno__")) (.str (.ofString "__firstlineno__") 248) (.int 11 247)), (.mk (PyData.keyHash P (.ofString "__init__")) (.str (.ofString "__init__") 257) (.ref 62)), (.mk (PyData.keyHash P (.ofString "__static_attributes__")) (.str (.ofString "__static_attributes__") 260) (.ref 63)), (.mk (PyData.keyHash P (.ofString "__dict__")) (.str (.ofString "__dict__") 262) (.ref 66)), (.mk (PyData.keyHash P (.ofString "__weakref__")) (.str (.ofString "__weakref__") 264) (.ref 67)), (.mk (PyData.keyHash P (.ofString "__doc__")) (.str (.ofString "__doc__") 265) .none)] 4) #[])
noncomputable abbrev o40 (P : Params) : Obj := (.mk (.type "type") none (.cls (.mk (.ofString "Symbol") [(.type "object")] [(.ref 65), (.type "object")] 64 (.ofString "Symbol") true [] [] false none false)) #[none, none, (some (.str (.ofString "Symbol") 237)), (some (.str (.ofString "Symbol") 245)), (some (.builtin "object.__new__")), (some (.bool true))])
noncomputable abbrev o41 (P : Params) : Obj := (.mk (.type "getset_descriptor") none (.fields #[(.str (.ofString "__dict__") 261), (.ref 65), (.builtin "function.__dict__"), (.builtin "function.__dict__#set")]) #[])
noncomputable abbrev o42 (P : Params) : Obj := (.mk (.type "getset_descriptor") none (.fields #[(.str (.ofString "__weakref__") 263), (.ref 65), (.builtin "ExceptionGroup.__weakref__"), .none]) #[])
noncomputable abbrev o43 (P : Params) : Obj := (.mk (.type "super") none (.fields #[(.ref 65), (.ref 65), (.ref 65)]) #[])
noncomputable abbrev o44 (P : Params) : Obj := (.mk (.type "builtin_function_or_method") none (.fields #[(.builtin "object.__init_subclass__"), (.ref 65)]) #[])
noncomputable abbrev o45 (P : Params) : Obj := (.mk (.type "dict") none (.dict #[(.mk (PyData.keyHash P (.ofString "__module__")) (.str (.ofString "__module__") 275) (.str (.ofString "scheme.data") 194)), (.mk (PyData.keyHash P (.ofString "__qualname__")) (.str (.ofString "__qualname__") 277) (.str (.ofString "SymbolTable") 276)), (.mk (PyData.keyHash P (.ofString "__firstlineno__")) (.str (.ofString "__firstlineno__") 279) (.int 16 278)), (.mk (PyData.keyHash P (.ofString "__init__")) (.str (.ofString "__init__") 286) (.ref 83)), (.mk (PyData.keyHash P (.ofString "symbol")) (.str (.ofString "symbol") 295) (.ref 90)), (.mk (PyData.keyHash P (.ofString "fresh")) (.str (.ofString "fresh") 304) (.ref 97)), (.mk (PyData.keyHash P (.ofString "by_number")) (.str (.ofString "by_number") 312) (.ref 104)), (.mk (PyData.keyHash P (.ofString "find")) (.str (.ofString "find") 320) (.ref 111)), (.mk (PyData.keyHash P (.ofString "is_interned")) (.str (.ofString "is_interned") 328) (.ref 118)), (.mk (PyData.keyHash P (.ofString "size")) (.str (.ofString "size") 335) (.ref 125)), (.mk (PyData.keyHash P (.ofString "__static_attributes__")) (.str (.ofString "__static_attributes__") 338) (.ref 126))] 11) #[])
noncomputable abbrev o46 (P : Params) : Obj := (.mk .none none (.fields #[(.int 18 0), (.int 4 0), (.ref 82), (.int 22 0), (.int 4 0), (.ref 89), (.int 30 0), (.int 4 0), (.ref 96), (.int 35 0), (.int 4 0), (.ref 103), (.int 38 0), (.int 4 0), (.ref 110), (.int 41 0), (.int 4 0), (.ref 117), (.int 44 0), (.int 4 0), (.ref 124)]) #[])
noncomputable abbrev o47 (P : Params) : Obj := (.mk (.type "code") none (.fields #[(.str (.ofString "SymbolTable") 270), (.str (.ofString "SymbolTable") 271), (.str (.ofString "/claim/cut.py") 272), (.int 16 0), (.int 0 0), (.int 0 0), (.int 0 0), (.int 0 0), (.ref 73), (.bool false), (.int 181 0), (.ref 74), .none, .none, .none, .none, (.int 273 0), (.int 16 0), (.str (.ofString "/claim/cut.py") 274)]) #[])
noncomputable abbrev o48 (P : Params) : Obj := (.mk (.type "frame") none .plain #[(some (.ref 75)), (some (.ref 3)), (some (.ref 72)), none, (some (.str (.ofString "scheme.data") 194)), none, (some (.ref 0))])
noncomputable abbrev o49 (P : Params) : Obj := (.mk (.type "tuple") none (.seq #[(.str (.ofString "self") 283)] 0) #[])
noncomputable abbrev o50 (P : Params) : Obj := (.mk .none none (.func (.mk (.ofString "__init__") (.ofString "SymbolTable.__init__") fa3 (.stmts fb3) fs3 0 [] .none .none .none .none none .none .none 0)) #[])
noncomputable abbrev o51 (P : Params) : Obj := (.mk (.type "code") none (.fields #[(.str (.ofString "__init__") 280), (.str (.ofString "SymbolTable.__init__") 281), (.str (.ofString "/claim/cut.py") 282), (.int 18 0), (.int 1 0), (.int 0 0), (.int 0 0), (.int 3 0), (.ref 77), (.bool true), (.int 181 0), (.ref 78), .none, (.ref 79), (.ref 80), (.ref 81), (.int 284 0), (.int 18 0), (.str (.ofString "/claim/cut.py") 285)]) #[])
noncomputable abbrev o52 (P : Params) : Obj := (.mk (.type "function") none (.func (.mk (.ofString "__init__") (.ofString "SymbolTable.__init__") fa3 (.stmts fb3) fs3 3 [] .none .none .none (.str (.ofString "scheme.data") 194) none (.ref 82) .none 0)) #[])
noncomputable abbrev o53 (P : Params) : Obj := (.mk (.type "tuple") none (.seq #[(.str (.ofString "self") 290), (.str (.ofString "text") 291), (.str (.ofString "found") 292)] 0) #[])
noncomputable abbrev o54 (P : Params) : Obj := (.mk .none none (.func (.mk (.ofString "symbol") (.ofString "SymbolTable.symbol") fa4 (.stmts fb4) fs4 0 [] .none .none .none .none none .none .none 0)) #[])
noncomputable abbrev o55 (P : Params) : Obj := (.mk (.type "code") none (.fields #[(.str (.ofString "symbol") 287), (.str (.ofString "SymbolTable.symbol") 288), (.str (.ofString "/claim/cut.py") 289), (.int 22 0), (.int 2 0), (.int 0 0), (.int 0 0), (.int 3 0), (.ref 84), (.bool true), (.int 181 0), (.ref 85), .none, (.ref 86), (.ref 87), (.ref 88), (.int 293 0), (.int 22 0), (.str (.ofString "/claim/cut.py") 294)]) #[])
noncomputable abbrev o56 (P : Params) : Obj := (.mk (.type "function") none (.func (.mk (.ofString "symbol") (.ofString "SymbolTable.symbol") fa4 (.stmts fb4) fs4 3 [] .none .none .none (.str (.ofString "scheme.data") 194) none (.ref 89) .none 0)) #[])
noncomputable abbrev o57 (P : Params) : Obj := (.mk (.type "tuple") none (.seq #[(.str (.ofString "self") 299), (.str (.ofString "hint") 300), (.str (.ofString "found") 301)] 0) #[])
noncomputable abbrev o58 (P : Params) : Obj := (.mk .none none (.func (.mk (.ofString "fresh") (.ofString "SymbolTable.fresh") fa5 (.stmts fb5) fs5 0 [] .none .none .none .none none .none .none 0)) #[])
noncomputable abbrev o59 (P : Params) : Obj := (.mk (.type "code") none (.fields #[(.str (.ofString "fresh") 296), (.str (.ofString "SymbolTable.fresh") 297), (.str (.ofString "/claim/cut.py") 298), (.int 30 0), (.int 2 0), (.int 0 0), (.int 0 0), (.int 3 0), (.ref 91), (.bool true), (.int 181 0), (.ref 92), .none, (.ref 93), (.ref 94), (.ref 95), (.int 302 0), (.int 30 0), (.str (.ofString "/claim/cut.py") 303)]) #[])
noncomputable abbrev o60 (P : Params) : Obj := (.mk (.type "function") none (.func (.mk (.ofString "fresh") (.ofString "SymbolTable.fresh") fa5 (.stmts fb5) fs5 3 [] .none .none .none (.str (.ofString "scheme.data") 194) none (.ref 96) .none 0)) #[])
noncomputable abbrev o61 (P : Params) : Obj := (.mk (.type "tuple") none (.seq #[(.str (.ofString "self") 308), (.str (.ofString "number") 309)] 0) #[])
noncomputable abbrev o62 (P : Params) : Obj := (.mk .none none (.func (.mk (.ofString "by_number") (.ofString "SymbolTable.by_number") fa6 (.stmts fb6) fs6 0 [] .none .none .none .none none .none .none 0)) #[])
noncomputable abbrev o63 (P : Params) : Obj := (.mk (.type "code") none (.fields #[(.str (.ofString "by_number") 305), (.str (.ofString "SymbolTable.by_number") 306), (.str (.ofString "/claim/cut.py") 307), (.int 35 0), (.int 2 0), (.int 0 0), (.int 0 0), (.int 3 0), (.ref 98), (.bool true), (.int 181 0), (.ref 99), .none, (.ref 100), (.ref 101), (.ref 102), (.int 310 0), (.int 35 0), (.str (.ofString "/claim/cut.py") 311)]) #[])
noncomputable abbrev o64 (P : Params) : Obj := (.mk (.type "function") none (.func (.mk (.ofString "by_number") (.ofString "SymbolTable.by_number") fa6 (.stmts fb6) fs6 3 [] .none .none .none (.str (.ofString "scheme.data") 194) none (.ref 103) .none 0)) #[])
noncomputable abbrev o65 (P : Params) : Obj := (.mk (.type "tuple") none (.seq #[(.str (.ofString "self") 316), (.str (.ofString "text") 317)] 0) #[])
noncomputable abbrev o66 (P : Params) : Obj := (.mk .none none (.func (.mk (.ofString "find") (.ofString "SymbolTable.find") fa7 (.stmts fb7) fs7 0 [] .none .none .none .none none .none .none 0)) #[])
noncomputable abbrev o67 (P : Params) : Obj := (.mk (.type "code") none (.fields #[(.str (.ofString "find") 313), (.str (.ofString "SymbolTable.find") 314), (.str (.ofString "/claim/cut.py") 315), (.int 38 0), (.int 2 0), (.int 0 0), (.int 0 0), (.int 3 0), (.ref 105), (.bool true), (.int 181 0), (.ref 106), .none, (.ref 107), (.ref 108), (.ref 109), (.int 318 0), (.int 38 0), (.str (.ofString "/claim/cut.py") 319)]) #[])
noncomputable abbrev o68 (P : Params) : Obj := (.mk (.type "function") none (.func (.mk (.ofString "find") (.ofString "SymbolTable.find") fa7 (.stmts fb7) fs7 3 [] .none .none .none (.str (.ofString "scheme.data") 194) none (.ref 110) .none 0)) #[])
noncomputable abbrev o69 (P : Params) : Obj := (.mk (.type "tuple") none (.seq #[(.str (.ofString "self") 324), (.str (.ofString "symbol") 325)] 0) #[])
noncomputable abbrev o70 (P : Params) : Obj := (.mk .none none (.func (.mk (.ofString "is_interned") (.ofString "SymbolTable.is_interned") fa8 (.stmts fb8) fs8 0 [] .none .none .none .none none .none .none 0)) #[])
noncomputable abbrev o71 (P : Params) : Obj := (.mk (.type "code") none (.fields #[(.str (.ofString "is_interned") 321), (.str (.ofString "SymbolTable.is_interned") 322), (.str (.ofString "/claim/cut.py") 323), (.int 41 0), (.int 2 0), (.int 0 0), (.int 0 0), (.int 3 0), (.ref 112), (.bool true), (.int 181 0), (.ref 113), .none, (.ref 114), (.ref 115), (.ref 116), (.int 326 0), (.int 41 0), (.str (.ofString "/claim/cut.py") 327)]) #[])
noncomputable abbrev o72 (P : Params) : Obj := (.mk (.type "function") none (.func (.mk (.ofString "is_interned") (.ofString "SymbolTable.is_interned") fa8 (.stmts fb8) fs8 3 [] .none .none .none (.str (.ofString "scheme.data") 194) none (.ref 117) .none 0)) #[])
noncomputable abbrev o73 (P : Params) : Obj := (.mk (.type "tuple") none (.seq #[(.str (.ofString "self") 332)] 0) #[])
noncomputable abbrev o74 (P : Params) : Obj := (.mk .none none (.func (.mk (.ofString "size") (.ofString "SymbolTable.size") fa9 (.stmts fb9) fs9 0 [] .none .none .none .none none .none .none 0)) #[])
noncomputable abbrev o75 (P : Params) : Obj := (.mk (.type "code") none (.fields #[(.str (.ofString "size") 329), (.str (.ofString "SymbolTable.size") 330), (.str (.ofString "/claim/cut.py") 331), (.int 44 0), (.int 1 0), (.int 0 0), (.int 0 0), (.int 3 0), (.ref 119), (.bool true), (.int 181 0), (.ref 120), .none, (.ref 121), (.ref 122), (.ref 123), (.int 333 0), (.int 44 0), (.str (.ofString "/claim/cut.py") 334)]) #[])
noncomputable abbrev o76 (P : Params) : Obj := (.mk (.type "function") none (.func (.mk (.ofString "size") (.ofString "SymbolTable.size") fa9 (.stmts fb9) fs9 3 [] .none .none .none (.str (.ofString "scheme.data") 194) none (.ref 124) .none 0)) #[])
noncomputable abbrev o77 (P : Params) : Obj := (.mk (.type "tuple") none (.seq #[(.str (.ofString "by_text") 336), (.str (.ofString "rows") 337)] 0) #[])
noncomputable abbrev o78 (P : Params) : Obj := (.mk (.type "dict") none (.dict #[(.mk (PyData.keyHash P (.ofString "__module__")) (.str (.ofString "__module__") 275) (.str (.ofString "scheme.data") 194)), (.mk (PyData.keyHash P (.ofString "__firstlineno__")) (.str (.ofString "__firstlineno__") 279) (.int 16 278)), (.mk (PyData.keyHash P (.ofString "__init__")) (.str (.ofString "__init__") 286) (.ref 83)), (.mk (PyData.keyHash P (.ofString "symbol")) (.str (.ofString "symbol") 295) (.ref 90)), (.mk (PyData.keyHash P (.ofString "fresh")) (.str (.ofString "fresh") 304) (.ref 97)), (.mk (PyData.keyHash P (.ofString "by_number")) (.str (.ofString "by_number") 312) (.ref 104)), (.mk (PyData.keyHash P (.ofString "find")) (.str (.ofString "find") 320) (.ref 111)), (.mk (PyData.keyHash P (.ofString "is_interned")) (.str (.ofString "is_interned") 328) (.ref 118)), (.mk (PyData.keyHash P (.ofString "size")) (.str (.ofString "size") 335) (.ref 125)), (.mk (PyData.keyHash P (.ofString "__static_attributes__")) (.str (.ofString "__static_attributes__") 338) (.ref 126)), (.mk (PyData.keyHash P (.ofString "__dict__")) (.str (.ofString "__dict__") 340) (.ref 129)), (.mk (PyData.keyHash P (.ofString "__weakref__")) (.str (.ofString "__weakref__") 342) (.ref 130)), (.mk (PyData.keyHash P (.ofString "__doc__")) (.str (.ofString "__doc__") 343) .none)] 4) #[])
noncomputable abbrev o79 (P : Params) : Obj := (.mk (.type "type") none (.cls (.mk (.ofString "SymbolTable") [(.type "object")] [(.ref 128), (.type "object")] 127 (.ofString "SymbolTable") true [] [] false none false)) #[none, none, (some (.str (.ofString "SymbolTable") 268)), (some (.str (.ofString "SymbolTable") 276)), (some (.builtin "object.__new__")), (some (.bool true))])
noncomputable abbrev o80 (P : Params) : Obj := (.mk (.type "getset_descriptor") none (.fields #[(.str (.ofString "__dict__") 339), (.ref 128), (.builtin "function.__dict__"), (.builtin "function.__dict__#set")]) #[])
noncomputable abbrev o81 (P : Params) : Obj := (.mk (.type "getset_descriptor") none (.fields #[(.str (.ofString "__weakref__") 341), (.ref 128), (.builtin "ExceptionGroup.__weakref__"), .none]) #[])
noncomputable abbrev o82 (P : Params) : Obj := (.mk (.type "super") none (.fields #[(.ref 128), (.ref 128), (.ref 128)]) #[])
noncomputable abbrev o83 (P : Params) : Obj := (.mk (.type "builtin_function_or_method") none (.fields #[(.builtin "object.__init_subclass__"), (.ref 128)]) #[])
noncomputable abbrev o84 (P : Params) : Obj := (.mk (.type "dict") none (.dict #[(.mk (PyData.keyHash P (.ofString "__module__")) (.str (.ofString "__module__") 353) (.str (.ofString "scheme.data") 194)), (.mk (PyData.keyHash P (.ofString "__qualname__")) (.str (.ofString "__qualname__") 355) (.str (.ofString "Pair") 354)), (.mk (PyData.keyHash P (.ofString "__firstlineno__")) (.str (.ofString "__firstlineno__") 357) (.int 46 356)), (.mk (PyData.keyHash P (.ofString "__init__")) (.str (.ofString "__init__") 366) (.ref 146)), (.mk (PyData.keyHash P (.ofString "__static_attributes__")) (.str (.ofString "__static_attributes__") 370) (.ref 147))] 5) #[])
noncomputable abbrev o85 (P : Params) : Obj := (.mk .none none (.fields #[(.int 48 0), (.int 4 0), (.ref 145)]) #[])
noncomputable abbrev o86 (P : Params) : Obj := (.mk (.type "code") none (.fields #[(.str (.ofString "Pair") 348), (.str (.ofString "Pair") 349), (.str (.ofString "/claim/cut.py") 350), (.int 46 0), (.int 0 0), (.int 0 0), (.int 0 0), (.int 0 0), (.ref 136), (.bool false), (.int 181 0), (.ref 137), .none, .none, .none, .none, (.int 351 0), (.int 46 0), (.str (.ofString "/claim/cut.py") 352)]) #[])
noncomputable abbrev o87 (P : Params) : Obj := (.mk (.type "frame") none .plain #[(some (.ref 138)), (some (.ref 3)), (some (.ref 135)), none, (some (.str (.ofString "scheme.data") 194)), none, (some (.ref 0))])
noncomputable abbrev o88 (P : Params) : Obj := (.mk (.type "tuple") none (.seq #[(.str (.ofString "self") 361), (.str (.ofString "car") 362), (.str (.ofString "cdr") 363)] 0) #[])
noncomputable abbrev o89 (P : Params) : Obj := (.mk .none none (.func (.mk (.ofString "__init__") (.ofString "Pair.__init__") fa10 (.stmts fb10) fs10 0 [] .none .none .none .none none .none .none 0)) #[])
noncomputable abbrev o90 (P : Params) : Obj := (.mk (.type "code") none (.fields #[(.str (.ofString "__init__") 358), (.str (.ofString "Pair.__init__") 359), (.str (.ofString "/claim/cut.py") 360), (.int 48 0), (.int 3 0), (.int 0 0), (.int 0 0), (.int 3 0), (.ref 140), (.bool true), (.int 181 0), (.ref 141), .none, (.ref 142), (.ref 143), (.ref 144), (.int 364 0), (.int 48 0), (.str (.ofString "/claim/cut.py") 365)]) #[])
noncomputable abbrev o91 (P : Params) : Obj := (.mk (.type "function") none (.func (.mk (.ofString "__init__") (.ofString "Pair.__init__") fa10 (.stmts fb10) fs10 3 [] .none .none .none (.str (.ofString "scheme.data") 194) none (.ref 145) .none 0)) #[])
noncomputable abbrev o92 (P : Params) : Obj := (.mk (.type "tuple") none (.seq #[(.str (.ofString "car") 367), (.str (.ofString "cdr") 368), (.str (.ofString "mark") 369)] 0) #[])
noncomputable abbrev o93 (P : Params) : Obj := (.mk (.type "dict") none (.dict #[(.mk (PyData.keyHash P (.ofString "__module__")) (.str (.ofString "__module__") 353) (.str (.ofString "scheme.data") 194)), (.mk (PyData.keyHash P (.ofString "__firstlineno__")) (.str (.ofString "__firstlineno__") 357) (.int 46 356)), (.mk (PyData.keyHash P (.ofString "__init__")) (.str (.ofString "__init__") 366) (.ref 146)), (.mk (PyData.keyHash P (.ofString "__static_attributes__")) (.str (.ofString "__static_attributes__") 370) (.ref 147)), (.mk (PyData.keyHash P (.ofString "__dict__")) (.str (.ofString "__dict__") 372) (.ref 150)), (.mk (PyData.keyHash P (.ofString "__weakref__")) (.str (.ofString "__weakref__") 374) (.ref 151)), (.mk (PyData.keyHash P (.ofString "__doc__")) (.str (.ofString "__doc__") 375) .none)] 4) #[])
noncomputable abbrev o94 (P : Params) : Obj := (.mk (.type "type") none (.cls (.mk (.ofString "Pair") [(.type "object")] [(.ref 149), (.type "object")] 148 (.ofString "Pair") true [] [] false none false)) #[none, none, (some (.str (.ofString "Pair") 346)), (some (.str (.ofString "Pair") 354)), (some (.builtin "object.__new__")), (some (.bool true))])
noncomputable abbrev o95 (P : Params) : Obj := (.mk (.type "getset_descriptor") none (.fields #[(.str (.ofString "__dict__") 371), (.ref 149), (.builtin "function.__dict__"), (.builtin "function.__dict__#set")]) #[])
noncomputable abbrev o96 (P : Params) : Obj := (.mk (.type "getset_descriptor") none (.fields #[(.str (.ofString "__weakref__") 373), (.ref 149), (.builtin "ExceptionGroup.__weakref__"), .none]) #[])
noncomputable abbrev o97 (P : Params) : Obj := (.mk (.type "super") none (.fields #[(.ref 149), (.ref 149), (.ref 149)]) #[])
noncomputable abbrev o98 (P : Params) : Obj := (.mk (.type "builtin_function_or_method") none (.fields #[(.builtin "object.__init_subclass__"), (.ref 149)]) #[])
noncomputable abbrev o99 (P : Params) : Obj := (.mk (.type "dict") none (.dict #[(.mk (PyData.keyHash P (.ofString "__module__")) (.str (.ofString "__module__") 385) (.str (.ofString "scheme.data") 194)), (.mk (PyData.keyHash P (.ofString "__qualname__")) (.str (.ofString "__qualname__") 387) (.str (.ofString "Char") 386)), (.mk (PyData.keyHash P (.ofString "__firstlineno__")) (.str (.ofString "__firstlineno__") 389) (.int 52 388)), (.mk (PyData.keyHash P (.ofString "__init__")) (.str (.ofString "__init__") 397) (.ref 167)), (.mk (PyData.keyHash P (.ofString "__static_attributes__")) (.str (.ofString "__static_attributes__") 399) (.ref 168))] 5) #[])
noncomputable abbrev o100 (P : Params) : Obj := (.mk .none none (.fields #[(.int 54 0), (.int 4 0), (.ref 166)]) #[])
noncomputable abbrev o101 (P : Params) : Obj := (.mk (.type "code") none (.fields #[(.str (.ofString "Char") 380), (.str (.ofString "Char") 381), (.str (.ofString "/claim/cut.py") 382), (.int 52 0), (.int 0 0), (.int 0 0), (.int 0 0), (.int 0 0), (.ref 157), (.bool false), (.int 181 0), (.ref 158), .none, .none, .none, .none, (.int 383 0), (.int 52 0), (.str (.ofString "/claim/cut.py") 384)]) #[])
noncomputable abbrev o102 (P : Params) : Obj := (.mk (.type "frame") none .plain #[(some (.ref 159)), (some (.ref 3)), (some (.ref 156)), none, (some (.str (.ofString "scheme.data") 194)), none, (some (.ref 0))])
noncomputable abbrev o103 (P : Params) : Obj := (.mk (.type "tuple") none (.seq #[(.str (.ofString "self") 393), (.str (.ofString "code") 394)] 0) #[])
noncomputable abbrev o104 (P : Params) : Obj := (.mk .none none (.func (.mk (.ofString "__init__") (.ofString "Char.__init__") fa11 (.stmts fb11) fs11 0 [] .none .none .none .none none .none .none 0)) #[])
noncomputable abbrev o105 (P : Params) : Obj := (.mk (.type "code") none (.fields #[(.str (.ofString "__init__") 390), (.str (.ofString "Char.__init__") 391), (.str (.ofString "/claim/cut.py") 392), (.int 54 0), (.int 2 0), (.int 0 0), (.int 0 0), (.int 3 0), (.ref 161), (.bool true), (.int 181 0), (.ref 162), .none, (.ref 163), (.ref 164), (.ref 165), (.int 395 0), (.int 54 0), (.str (.ofString "/claim/cut.py") 396)]) #[])
noncomputable abbrev o106 (P : Params) : Obj := (.mk (.type "function") none (.func (.mk (.ofString "__init__") (.ofString "Char.__init__") fa11 (.stmts fb11) fs11 3 [] .none .none .none (.str (.ofString "scheme.data") 194) none (.ref 166) .none 0)) #[])
noncomputable abbrev o107 (P : Params) : Obj := (.mk (.type "tuple") none (.seq #[(.str (.ofString "code") 398)] 0) #[])
noncomputable abbrev o108 (P : Params) : Obj := (.mk (.type "dict") none (.dict #[(.mk (PyData.keyHash P (.ofString "__module__")) (.str (.ofString "__module__") 385) (.str (.ofString "scheme.data") 194)), (.mk (PyData.keyHash P (.ofString "__firstlineno__")) (.str (.ofString "__firstlineno__") 389) (.int 52 388)), (.mk (PyData.keyHash P (.ofString "__init__")) (.str (.ofString "__init__") 397) (.ref 167)), (.mk (PyData.keyHash P (.ofString "__static_attributes__")) (.str (.ofString "__static_attributes__") 399) (.ref 168)), (.mk (PyData.keyHash P (.ofString "__dict__")) (.str (.ofString "__dict__") 401) (.ref 171)), (.mk (PyData.keyHash P (.ofString "__weakref__")) (.str (.ofString "__weakref__") 403) (.ref 172)), (.mk (PyData.keyHash P (.ofString "__doc__")) (.str (.ofString "__doc__") 404) .none)] 4) #[])
noncomputable abbrev o109 (P : Params) : Obj := (.mk (.type "type") none (.cls (.mk (.ofString "Char") [(.type "object")] [(.ref 170), (.type "object")] 169 (.ofString "Char") true [] [] false none false)) #[none, none, (some (.str (.ofString "Char") 378)), (some (.str (.ofString "Char") 386)), (some (.builtin "object.__new__")), (some (.bool true))])
noncomputable abbrev o110 (P : Params) : Obj := (.mk (.type "getset_descriptor") none (.fields #[(.str (.ofString "__dict__") 400), (.ref 170), (.builtin "function.__dict__"), (.builtin "function.__dict__#set")]) #[])
noncomputable abbrev o111 (P : Params) : Obj := (.mk (.type "getset_descriptor") none (.fields #[(.str (.ofString "__weakref__") 402), (.ref 170), (.builtin "ExceptionGroup.__weakref__"), .none]) #[])
noncomputable abbrev o112 (P : Params) : Obj := (.mk (.type "super") none (.fields #[(.ref 170), (.ref 170), (.ref 170)]) #[])
noncomputable abbrev o113 (P : Params) : Obj := (.mk (.type "builtin_function_or_method") none (.fields #[(.builtin "object.__init_subclass__"), (.ref 170)]) #[])
noncomputable abbrev o114 (P : Params) : Obj := (.mk (.type "dict") none (.dict #[(.mk (PyData.keyHash P (.ofString "__module__")) (.str (.ofString "__module__") 414) (.str (.ofString "scheme.data") 194)), (.mk (PyData.keyHash P (.ofString "__qualname__")) (.str (.ofString "__qualname__") 416) (.str (.ofString "Text") 415)), (.mk (PyData.keyHash P (.ofString "__firstlineno__")) (.str (.ofString "__firstlineno__") 418) (.int 56 417)), (.mk (PyData.keyHash P (.ofString "__init__")) (.str (.ofString "__init__") 426) (.ref 188)), (.mk (PyData.keyHash P (.ofString "__static_attributes__")) (.str (.ofString "__static_attributes__") 429) (.ref 189))] 5) #[])
noncomputable abbrev o115 (P : Params) : Obj := (.mk .none none (.fields #[(.int 58 0), (.int 4 0), (.ref 187)]) #[])
noncomputable abbrev o116 (P : Params) : Obj := (.mk (.type "code") none (.fields #[(.str (.ofString "Text") 409), (.str (.ofString "Text") 410), (.str (.ofString "/claim/cut.py") 411), (.int 56 0), (.int 0 0), (.int 0 0), (.int 0 0), (.int 0 0), (.ref 178), (.bool false), (.int 181 0), (.ref 179), .none, .none, .none, .none, (.int 412 0), (.int 56 0), (.str (.ofString "/claim/cut.py") 413)]) #[])
noncomputable abbrev o117 (P : Params) : Obj := (.mk (.type "frame") none .plain #[(some (.ref 180)), (some (.ref 3)), (some (.ref 177)), none, (some (.str (.ofString "scheme.data") 194)), none, (some (.ref 0))])
noncomputable abbrev o118 (P : Params) : Obj := (.mk (.type "tuple") none (.seq #[(.str (.ofString "self") 422), (.str (.ofString "codes") 423)] 0) #[])
noncomputable abbrev o119 (P : Params) : Obj := (.mk .none none (.func (.mk (.ofString "__init__") (.ofString "Text.__init__") fa12 (.stmts fb12) fs12 0 [] .none .none .none .none none .none .none 0)) #[])
noncomputable abbrev o120 (P : Params) : Obj := (.mk (.type "code") none (.fields #[(.str (.ofString "__init__") 419), (.str (.ofString "Text.__init__") 420), (.str (.ofString "/claim/cut.py") 421), (.int 58 0), (.int 2 0), (.int 0 0), (.int 0 0), (.int 3 0), (.ref 182), (.bool true), (.int 181 0), (.ref 183), .none, (.ref 184), (.ref 185), (.ref 186), (.int 424 0), (.int 58 0), (.str (.ofString "/claim/cut.py") 425)]) #[])
noncomputable abbrev o121 (P : Params) : Obj := (.mk (.type "function") none (.func (.mk (.ofString "__init__") (.ofString "Text.__init__") fa12 (.stmts fb12) fs12 3 [] .none .none .none (.str (.ofString "scheme.data") 194) none (.ref 187) .none 0)) #[])
noncomputable abbrev o122 (P : Params) : Obj := (.mk (.type "tuple") none (.seq #[(.str (.ofString "codes") 427), (.str (.ofString "mark") 428)] 0) #[])
noncomputable abbrev o123 (P : Params) : Obj := (.mk (.type "dict") none (.dict #[(.mk (PyData.keyHash P (.ofString "__module__")) (.str (.ofString "__module__") 414) (.str (.ofString "scheme.data") 194)), (.mk (PyData.keyHash P (.ofString "__firstlineno__")) (.str (.ofString "__firstlineno__") 418) (.int 56 417)), (.mk (PyData.keyHash P (.ofString "__init__")) (.str (.ofString "__init__") 426) (.ref 188)), (.mk (PyData.keyHash P (.ofString "__static_attributes__")) (.str (.ofString "__static_attributes__") 429) (.ref 189)), (.mk (PyData.keyHash P (.ofString "__dict__")) (.str (.ofString "__dict__") 431) (.ref 192)), (.mk (PyData.keyHash P (.ofString "__weakref__")) (.str (.ofString "__weakref__") 433) (.ref 193)), (.mk (PyData.keyHash P (.ofString "__doc__")) (.str (.ofString "__doc__") 434) .none)] 4) #[])
noncomputable abbrev o124 (P : Params) : Obj := (.mk (.type "type") none (.cls (.mk (.ofString "Text") [(.type "object")] [(.ref 191), (.type "object")] 190 (.ofString "Text") true [] [] false none false)) #[none, none, (some (.str (.ofString "Text") 407)), (some (.str (.ofString "Text") 415)), (some (.builtin "object.__new__")), (some (.bool true))])
noncomputable abbrev o125 (P : Params) : Obj := (.mk (.type "getset_descriptor") none (.fields #[(.str (.ofString "__dict__") 430), (.ref 191), (.builtin "function.__dict__"), (.builtin "function.__dict__#set")]) #[])
noncomputable abbrev o126 (P : Params) : Obj := (.mk (.type "getset_descriptor") none (.fields #[(.str (.ofString "__weakref__") 432), (.ref 191), (.builtin "ExceptionGroup.__weakref__"), .none]) #[])
noncomputable abbrev o127 (P : Params) : Obj := (.mk (.type "super") none (.fields #[(.ref 191), (.ref 191), (.ref 191)]) #[])
noncomputable abbrev o128 (P : Params) : Obj := (.mk (.type "builtin_function_or_method") none (.fields #[(.builtin "object.__init_subclass__"), (.ref 191)]) #[])
noncomputable abbrev o129 (P : Params) : Obj := (.mk (.type "dict") none (.dict #[(.mk (PyData.keyHash P (.ofString "__module__")) (.str (.ofString "__module__") 444) (.str (.ofString "scheme.data") 194)), (.mk (PyData.keyHash P (.ofString "__qualname__")) (.str (.ofString "__qualname__") 446) (.str (.ofString "PortRef") 445)), (.mk (PyData.keyHash P (.ofString "__firstlineno__")) (.str (.ofString "__firstlineno__") 448) (.int 61 447)), (.mk (PyData.keyHash P (.ofString "__init__")) (.str (.ofString "__init__") 456) (.ref 209)), (.mk (PyData.keyHash P (.ofString "__static_attributes__")) (.str (.ofString "__static_attributes__") 458) (.ref 210))] 5) #[])
noncomputable abbrev o130 (P : Params) : Obj := (.mk .none none (.fields #[(.int 63 0), (.int 4 0), (.ref 208)]) #[])
noncomputable abbrev o131 (P : Params) : Obj := (.mk (.type "code") none (.fields #[(.str (.ofString "PortRef") 439), (.str (.ofString "PortRef") 440), (.str (.ofString "/claim/cut.py") 441), (.int 61 0), (.int 0 0), (.int 0 0), (.int 0 0), (.int 0 0), (.ref 199), (.bool false), (.int 181 0), (.ref 200), .none, .none, .none, .none, (.int 442 0), (.int 61 0), (.str (.ofString "/claim/cut.py") 443)]) #[])
noncomputable abbrev o132 (P : Params) : Obj := (.mk (.type "frame") none .plain #[(some (.ref 201)), (some (.ref 3)), (some (.ref 198)), none, (some (.str (.ofString "scheme.data") 194)), none, (some (.ref 0))])
noncomputable abbrev o133 (P : Params) : Obj := (.mk (.type "tuple") none (.seq #[(.str (.ofString "self") 452), (.str (.ofString "number") 453)] 0) #[])
noncomputable abbrev o134 (P : Params) : Obj := (.mk .none none (.func (.mk (.ofString "__init__") (.ofString "PortRef.__init__") fa13 (.stmts fb13) fs6 0 [] .none .none .none .none none .none .none 0)) #[])
noncomputable abbrev o135 (P : Params) : Obj := (.mk (.type "code") none (.fields #[(.str (.ofString "__init__") 449), (.str (.ofString "PortRef.__init__") 450), (.str (.ofString "/claim/cut.py") 451), (.int 63 0), (.int 2 0), (.int 0 0), (.int 0 0), (.int 3 0), (.ref 203), (.bool true), (.int 181 0), (.ref 204), .none, (.ref 205), (.ref 206), (.ref 207), (.int 454 0), (.int 63 0), (.str (.ofString "/claim/cut.py") 455)]) #[])
noncomputable abbrev o136 (P : Params) : Obj := (.mk (.type "function") none (.func (.mk (.ofString "__init__") (.ofString "PortRef.__init__") fa13 (.stmts fb13) fs6 3 [] .none .none .none (.str (.ofString "scheme.data") 194) none (.ref 208) .none 0)) #[])
noncomputable abbrev o137 (P : Params) : Obj := (.mk (.type "tuple") none (.seq #[(.str (.ofString "number") 457)] 0) #[])
noncomputable abbrev o138 (P : Params) : Obj := (.mk (.type "dict") none (.dict #[(.mk (PyData.keyHash P (.ofString "__module__")) (.str (.ofString "__module__") 444) (.str (.ofString "scheme.data") 194)), (.mk (PyData.keyHash P (.ofString "__firstlineno__")) (.str (.ofString "__firstlineno__") 448) (.int 61 447)), (.mk (PyData.keyHash P (.ofString "__init__")) (.str (.ofString "__init__") 456) (.ref 209)), (.mk (PyData.keyHash P (.ofString "__static_attributes__")) (.str (.ofString "__static_attributes__") 458) (.ref 210)), (.mk (PyData.keyHash P (.ofString "__dict__")) (.str (.ofString "__dict__") 460) (.ref 213)), (.mk (PyData.keyHash P (.ofString "__weakref__")) (.str (.ofString "__weakref__") 462) (.ref 214)), (.mk (PyData.keyHash P (.ofString "__doc__")) (.str (.ofString "__doc__") 463) .none)] 4) #[])
noncomputable abbrev o139 (P : Params) : Obj := (.mk (.type "type") none (.cls (.mk (.ofString "PortRef") [(.type "object")] [(.ref 212), (.type "object")] 211 (.ofString "PortRef") true [] [] false none false)) #[none, none, (some (.str (.ofString "PortRef") 437)), (some (.str (.ofString "PortRef") 445)), (some (.builtin "object.__new__")), (some (.bool true))])
noncomputable abbrev o140 (P : Params) : Obj := (.mk (.type "getset_descriptor") none (.fields #[(.str (.ofString "__dict__") 459), (.ref 212), (.builtin "function.__dict__"), (.builtin "function.__dict__#set")]) #[])
noncomputable abbrev o141 (P : Params) : Obj := (.mk (.type "getset_descriptor") none (.fields #[(.str (.ofString "__weakref__") 461), (.ref 212), (.builtin "ExceptionGroup.__weakref__"), .none]) #[])
noncomputable abbrev o142 (P : Params) : Obj := (.mk (.type "super") none (.fields #[(.ref 212), (.ref 212), (.ref 212)]) #[])
noncomputable abbrev o143 (P : Params) : Obj := (.mk (.type "builtin_function_or_method") none (.fields #[(.builtin "object.__init_subclass__"), (.ref 212)]) #[])
noncomputable abbrev o144 (P : Params) : Obj := (.mk (.type "dict") none (.dict #[(.mk (PyData.keyHash P (.ofString "__module__")) (.str (.ofString "__module__") 475) (.str (.ofString "scheme.names") 466)), (.mk (PyData.keyHash P (.ofString "__qualname__")) (.str (.ofString "__qualname__") 477) (.str (.ofString "Names") 476)), (.mk (PyData.keyHash P (.ofString "__firstlineno__")) (.str (.ofString "__firstlineno__") 479) (.int 66 478)), (.mk (PyData.keyHash P (.ofString "__init__")) (.str (.ofString "__init__") 486) (.ref 230)), (.mk (PyData.keyHash P (.ofString "fresh")) (.str (.ofString "fresh") 493) (.ref 237)), (.mk (PyData.keyHash P (.ofString "symbol")) (.str (.ofString "symbol") 501) (.ref 244)), (.mk (PyData.keyHash P (.ofString "number_of_name")) (.str (.ofString "number_of_name") 509) (.ref 251)), (.mk (PyData.keyHash P (.ofString "text_of_symbol")) (.str (.ofString "text_of_symbol") 517) (.ref 258)), (.mk (PyData.keyHash P (.ofString "set_title")) (.str (.ofString "set_title") 526) (.ref 265)), (.mk (PyData.keyHash P (.ofString "title_of")) (.str (.ofString "title_of") 534) (.ref 272)), (.mk (PyData.keyHash P (.ofString "give_ops")) (.str (.ofString "give_ops") 543) (.ref 279)), (.mk (PyData.keyHash P (.ofString "op_at")) (.str (.ofString "op_at") 551) (.ref 286)), (.mk (PyData.keyHash P (.ofString "fold")) (.str (.ofString "fold") 560) (.ref 293)), (.mk (PyData.keyHash P (.ofString "__static_attributes__")) (.str (.ofString "__static_attributes__") 566) (.ref 294))] 14) #[])
noncomputable abbrev o145 (P : Params) : Obj := (.mk .none none (.fields #[(.int 68 0), (.int 4 0), (.ref 229), (.int 75 0), (.int 4 0), (.ref 236), (.int 79 0), (.int 4 0), (.ref 243), (.int 82 0), (.int 4 0), (.ref 250), (.int 85 0), (.int 4 0), (.ref 257), (.int 88 0), (.int 4 0), (.ref 264), (.int 92 0), (.int 4 0), (.ref 271), (.int 95 0), (.int 4 0), (.ref 278), (.int 99 0), (.int 4 0), (.ref 285), (.int 102 0), (.int 4 0), (.ref 292)]) #[])
noncomputable abbrev o146 (P : Params) : Obj := (.mk (.type "code") none (.fields #[(.str (.ofString "Names") 470), (.str (.ofString "Names") 471), (.str (.ofString "/claim/cut.py") 472), (.int 66 0), (.int 0 0), (.int 0 0), (.int 0 0), (.int 0 0), (.ref 220), (.bool false), (.int 181 0), (.ref 221), .none, .none, .none, .none, (.int 473 0), (.int 66 0), (.str (.ofString "/claim/cut.py") 474)]) #[])
noncomputable abbrev o147 (P : Params) : Obj := (.mk (.type "frame") none .plain #[(some (.ref 222)), (some (.ref 3)), (some (.ref 219)), none, (some (.str (.ofString "scheme.names") 466)), none, (some (.ref 0))])
noncomputable abbrev o148 (P : Params) : Obj := (.mk (.type "tuple") none (.seq #[(.str (.ofString "self") 483)] 0) #[])
noncomputable abbrev o149 (P : Params) : Obj := (.mk .none none (.func (.mk (.ofString "__init__") (.ofString "Names.__init__") fa14 (.stmts fb14) fs14 0 [] .none .none .none .none none .none .none 0)) #[])
noncomputable abbrev o150 (P : Params) : Obj := (.mk (.type "code") none (.fields #[(.str (.ofString "__init__") 480), (.str (.ofString "Names.__init__") 481), (.str (.ofString "/claim/cut.py") 482), (.int 68 0), (.int 1 0), (.int 0 0), (.int 0 0), (.int 3 0), (.ref 224), (.bool true), (.int 181 0), (.ref 225), .none, (.ref 226), (.ref 227), (.ref 228), (.int 484 0), (.int 68 0), (.str (.ofString "/claim/cut.py") 485)]) #[])
noncomputable abbrev o151 (P : Params) : Obj := (.mk (.type "function") none (.func (.mk (.ofString "__init__") (.ofString "Names.__init__") fa14 (.stmts fb14) fs14 3 [] .none .none .none (.str (.ofString "scheme.names") 466) none (.ref 229) .none 0)) #[])
noncomputable abbrev o152 (P : Params) : Obj := (.mk (.type "tuple") none (.seq #[(.str (.ofString "self") 490)] 0) #[])
noncomputable abbrev o153 (P : Params) : Obj := (.mk .none none (.func (.mk (.ofString "fresh") (.ofString "Names.fresh") fa15 (.stmts fb15) fs3 0 [] .none .none .none .none none .none .none 0)) #[])
noncomputable abbrev o154 (P : Params) : Obj := (.mk (.type "code") none (.fields #[(.str (.ofString "fresh") 487), (.str (.ofString "Names.fresh") 488), (.str (.ofString "/claim/cut.py") 489), (.int 75 0), (.int 1 0), (.int 0 0), (.int 0 0), (.int 3 0), (.ref 231), (.bool true), (.int 181 0), (.ref 232), .none, (.ref 233), (.ref 234), (.ref 235), (.int 491 0), (.int 75 0), (.str (.ofString "/claim/cut.py") 492)]) #[])
noncomputable abbrev o155 (P : Params) : Obj := (.mk (.type "function") none (.func (.mk (.ofString "fresh") (.ofString "Names.fresh") fa15 (.stmts fb15) fs3 3 [] .none .none .none (.str (.ofString "scheme.names") 466) none (.ref 236) .none 0)) #[])
noncomputable abbrev o156 (P : Params) : Obj := (.mk (.type "tuple") none (.seq #[(.str (.ofString "self") 497), (.str (.ofString "text") 498)] 0) #[])
noncomputable abbrev o157 (P : Params) : Obj := (.mk .none none (.func (.mk (.ofString "symbol") (.ofString "Names.symbol") fa16 (.stmts fb16) fs16 0 [] .none .none .none .none none .none .none 0)) #[])
noncomputable abbrev o158 (P : Params) : Obj := (.mk (.type "code") none (.fields #[(.str (.ofString "symbol") 494), (.str (.ofString "Names.symbol") 495), (.str (.ofString "/claim/cut.py") 496), (.int 79 0), (.int 2 0), (.int 0 0), (.int 0 0), (.int 3 0), (.ref 238), (.bool true), (.int 181 0), (.ref 239), .none, (.ref 240), (.ref 241), (.ref 242), (.int 499 0), (.int 79 0), (.str (.ofString "/claim/cut.py") 500)]) #[])
noncomputable abbrev o159 (P : Params) : Obj := (.mk (.type "function") none (.func (.mk (.ofString "symbol") (.ofString "Names.symbol") fa16 (.stmts fb16) fs16 3 [] .none .none .none (.str (.ofString "scheme.names") 466) none (.ref 243) .none 0)) #[])
noncomputable abbrev o160 (P : Params) : Obj := (.mk (.type "tuple") none (.seq #[(.str (.ofString "self") 505), (.str (.ofString "text") 506)] 0) #[])
noncomputable abbrev o161 (P : Params) : Obj := (.mk .none none (.func (.mk (.ofString "number_of_name") (.ofString "Names.number_of_name") fa17 (.stmts fb17) fs16 0 [] .none .none .none .none none .none .none 0)) #[])
noncomputable abbrev o162 (P : Params) : Obj := (.mk (.type "code") none (.fields #[(.str (.ofString "number_of_name") 502), (.str (.ofString "Names.number_of_name") 503), (.str (.ofString "/claim/cut.py") 504), (.int 82 0), (.int 2 0), (.int 0 0), (.int 0 0), (.int 3 0), (.ref 245), (.bool true), (.int 181 0), (.ref 246), .none, (.ref 247), (.ref 248), (.ref 249), (.int 507 0), (.int 82 0), (.str (.ofString "/claim/cut.py") 508)]) #[])
noncomputable abbrev o163 (P : Params) : Obj := (.mk (.type "function") none (.func (.mk (.ofString "number_of_name") (.ofString "Names.number_of_name") fa17 (.stmts fb17) fs16 3 [] .none .none .none (.str (.ofString "scheme.names") 466) none (.ref 250) .none 0)) #[])
noncomputable abbrev o164 (P : Params) : Obj := (.mk (.type "tuple") none (.seq #[(.str (.ofString "self") 513), (.str (.ofString "number") 514)] 0) #[])
noncomputable abbrev o165 (P : Params) : Obj := (.mk .none none (.func (.mk (.ofString "text_of_symbol") (.ofString "Names.text_of_symbol") fa18 (.stmts fb18) fs6 0 [] .none .none .none .none none .none .none 0)) #[])
noncomputable abbrev o166 (P : Params) : Obj := (.mk (.type "code") none (.fields #[(.str (.ofString "text_of_symbol") 510), (.str (.ofString "Names.text_of_symbol") 511), (.str (.ofString "/claim/cut.py") 512), (.int 85 0), (.int 2 0), (.int 0 0), (.int 0 0), (.int 3 0), (.ref 252), (.bool true), (.int 181 0), (.ref 253), .none, (.ref 254), (.ref 255), (.ref 256), (.int 515 0), (.int 85 0), (.str (.ofString "/claim/cut.py") 516)]) #[])
noncomputable abbrev o167 (P : Params) : Obj := (.mk (.type "function") none (.func (.mk (.ofString "text_of_symbol") (.ofString "Names.text_of_symbol") fa18 (.stmts fb18) fs6 3 [] .none .none .none (.str (.ofString "scheme.names") 466) none (.ref 257) .none 0)) #[])
noncomputable abbrev o168 (P : Params) : Obj := (.mk (.type "tuple") none (.seq #[(.str (.ofString "self") 521), (.str (.ofString "label") 522), (.str (.ofString "text") 523)] 0) #[])
noncomputable abbrev o169 (P : Params) : Obj := (.mk .none none (.func (.mk (.ofString "set_title") (.ofString "Names.set_title") fa19 (.stmts fb19) fs19 0 [] .none .none .none .none none .none .none 0)) #[])
noncomputable abbrev o170 (P : Params) : Obj := (.mk (.type "code") none (.fields #[(.str (.ofString "set_title") 518), (.str (.ofString "Names.set_title") 519), (.str (.ofString "/claim/cut.py") 520), (.int 88 0), (.int 3 0), (.int 0 0), (.int 0 0), (.int 3 0), (.ref 259), (.bool true), (.int 181 0), (.ref 260), .none, (.ref 261), (.ref 262), (.ref 263), (.int 524 0), (.int 88 0), (.str (.ofString "/claim/cut.py") 525)]) #[])
noncomputable abbrev o171 (P : Params) : Obj := (.mk (.type "function") none (.func (.mk (.ofString "set_title") (.ofString "Names.set_title") fa19 (.stmts fb19) fs19 3 [] .none .none .none (.str (.ofString "scheme.names") 466) none (.ref 264) .none 0)) #[])
noncomputable abbrev o172 (P : Params) : Obj := (.mk (.type "tuple") none (.seq #[(.str (.ofString "self") 530), (.str (.ofString "label") 531)] 0) #[])
noncomputable abbrev o173 (P : Params) : Obj := (.mk .none none (.func (.mk (.ofString "title_of") (.ofString "Names.title_of") fa20 (.stmts fb20) fs20 0 [] .none .none .none .none none .none .none 0)) #[])
noncomputable abbrev o174 (P : Params) : Obj := (.mk (.type "code") none (.fields #[(.str (.ofString "title_of") 527), (.str (.ofString "Names.title_of") 528), (.str (.ofString "/claim/cut.py") 529), (.int 92 0), (.int 2 0), (.int 0 0), (.int 0 0), (.int 3 0), (.ref 266), (.bool true), (.int 181 0), (.ref 267), .none, (.ref 268), (.ref 269), (.ref 270), (.int 532 0), (.int 92 0), (.str (.ofString "/claim/cut.py") 533)]) #[])
noncomputable abbrev o175 (P : Params) : Obj := (.mk (.type "function") none (.func (.mk (.ofString "title_of") (.ofString "Names.title_of") fa20 (.stmts fb20) fs20 3 [] .none .none .none (.str (.ofString "scheme.names") 466) none (.ref 271) .none 0)) #[])
noncomputable abbrev o176 (P : Params) : Obj := (.mk (.type "tuple") none (.seq #[(.str (.ofString "self") 538), (.str (.ofString "rows") 539), (.str (.ofString "op") 540)] 0) #[])
noncomputable abbrev o177 (P : Params) : Obj := (.mk .none none (.func (.mk (.ofString "give_ops") (.ofString "Names.give_ops") fa21 (.stmts fb21) fs21 0 [] .none .none .none .none none .none .none 0)) #[])
noncomputable abbrev o178 (P : Params) : Obj := (.mk (.type "code") none (.fields #[(.str (.ofString "give_ops") 535), (.str (.ofString "Names.give_ops") 536), (.str (.ofString "/claim/cut.py") 537), (.int 95 0), (.int 2 0), (.int 0 0), (.int 0 0), (.int 3 0), (.ref 273), (.bool true), (.int 181 0), (.ref 274), .none, (.ref 275), (.ref 276), (.ref 277), (.int 541 0), (.int 95 0), (.str (.ofString "/claim/cut.py") 542)]) #[])
noncomputable abbrev o179 (P : Params) : Obj := (.mk (.type "function") none (.func (.mk (.ofString "give_ops") (.ofString "Names.give_ops") fa21 (.stmts fb21) fs21 3 [] .none .none .none (.str (.ofString "scheme.names") 466) none (.ref 278) .none 0)) #[])
noncomputable abbrev o180 (P : Params) : Obj := (.mk (.type "tuple") none (.seq #[(.str (.ofString "self") 547), (.str (.ofString "symbol") 548)] 0) #[])
noncomputable abbrev o181 (P : Params) : Obj := (.mk .none none (.func (.mk (.ofString "op_at") (.ofString "Names.op_at") fa22 (.stmts fb22) fs22 0 [] .none .none .none .none none .none .none 0)) #[])
noncomputable abbrev o182 (P : Params) : Obj := (.mk (.type "code") none (.fields #[(.str (.ofString "op_at") 544), (.str (.ofString "Names.op_at") 545), (.str (.ofString "/claim/cut.py") 546), (.int 99 0), (.int 2 0), (.int 0 0), (.int 0 0), (.int 3 0), (.ref 280), (.bool true), (.int 181 0), (.ref 281), .none, (.ref 282), (.ref 283), (.ref 284), (.int 549 0), (.int 99 0), (.str (.ofString "/claim/cut.py") 550)]) #[])
noncomputable abbrev o183 (P : Params) : Obj := (.mk (.type "function") none (.func (.mk (.ofString "op_at") (.ofString "Names.op_at") fa22 (.stmts fb22) fs22 3 [] .none .none .none (.str (.ofString "scheme.names") 466) none (.ref 285) .none 0)) #[])
noncomputable abbrev o184 (P : Params) : Obj := (.mk (.type "tuple") none (.seq #[(.str (.ofString "self") 555), (.str (.ofString "op") 556), (.str (.ofString "values") 557)] 0) #[])
noncomputable abbrev o185 (P : Params) : Obj := (.mk .none none (.func (.mk (.ofString "fold") (.ofString "Names.fold") fa23 (.stmts fb23) fs23 0 [] .none .none .none .none none .none .none 0)) #[])
noncomputable abbrev o186 (P : Params) : Obj := (.mk (.type "code") none (.fields #[(.str (.ofString "fold") 552), (.str (.ofString "Names.fold") 553), (.str (.ofString "/claim/cut.py") 554), (.int 102 0), (.int 3 0), (.int 0 0), (.int 0 0), (.int 3 0), (.ref 287), (.bool true), (.int 181 0), (.ref 288), .none, (.ref 289), (.ref 290), (.ref 291), (.int 558 0), (.int 102 0), (.str (.ofString "/claim/cut.py") 559)]) #[])
noncomputable abbrev o187 (P : Params) : Obj := (.mk (.type "function") none (.func (.mk (.ofString "fold") (.ofString "Names.fold") fa23 (.stmts fb23) fs23 3 [] .none .none .none (.str (.ofString "scheme.names") 466) none (.ref 292) .none 0)) #[])
noncomputable abbrev o188 (P : Params) : Obj := (.mk (.type "tuple") none (.seq #[(.str (.ofString "last") 561), (.str (.ofString "ops") 562), (.str (.ofString "root") 563), (.str (.ofString "table") 564), (.str (.ofString "titles") 565)] 0) #[])
noncomputable abbrev o189 (P : Params) : Obj := (.mk (.type "dict") none (.dict #[(.mk (PyData.keyHash P (.ofString "__module__")) (.str (.ofString "__module__") 475) (.str (.ofString "scheme.names") 466)), (.mk (PyData.keyHash P (.ofString "__firstlineno__")) (.str (.ofString "__firstlineno__") 479) (.int 66 478)), (.mk (PyData.keyHash P (.ofString "__init__")) (.str (.ofString "__init__") 486) (.ref 230)), (.mk (PyData.keyHash P (.ofString "fresh")) (.str (.ofString "fresh") 493) (.ref 237)), (.mk (PyData.keyHash P (.ofString "symbol")) (.str (.ofString "symbol") 501) (.ref 244)), (.mk (PyData.keyHash P (.ofString "number_of_name")) (.str (.ofString "number_of_name") 509) (.ref 251)), (.mk (PyData.keyHash P (.ofString "text_of_symbol")) (.str (.ofString "text_of_symbol") 517) (.ref 258)), (.mk (PyData.keyHash P (.ofString "set_title")) (.str (.ofString "set_title") 526) (.ref 265)), (.mk (PyData.keyHash P (.ofString "title_of")) (.str (.ofString "title_of") 534) (.ref 272)), (.mk (PyData.keyHash P (.ofString "give_ops")) (.str (.ofString "give_ops") 543) (.ref 279)), (.mk (PyData.keyHash P (.ofString "op_at")) (.str (.ofString "op_at") 551) (.ref 286)), (.mk (PyData.keyHash P (.ofString "fold")) (.str (.ofString "fold") 560) (.ref 293)), (.mk (PyData.keyHash P (.ofString "__static_attributes__")) (.str (.ofString "__static_attributes__") 566) (.ref 294)), (.mk (PyData.keyHash P (.ofString "__dict__")) (.str (.ofString "__dict__") 568) (.ref 297)), (.mk (PyData.keyHash P (.ofString "__weakref__")) (.str (.ofString "__weakref__") 570) (.ref 298)), (.mk (PyData.keyHash P (.ofString "__doc__")) (.str (.ofString "__doc__") 571) .none)] 4) #[])
noncomputable abbrev o190 (P : Params) : Obj := (.mk (.type "type") none (.cls (.mk (.ofString "Names") [(.type "object")] [(.ref 296), (.type "object")] 295 (.ofString "Names") true [] [] false none false)) #[none, none, (some (.str (.ofString "Names") 468)), (some (.str (.ofString "Names") 476)), (some (.builtin "object.__new__")), (some (.bool true))])
noncomputable abbrev o191 (P : Params) : Obj := (.mk (.type "getset_descriptor") none (.fields #[(.str (.ofString "__dict__") 567), (.ref 296), (.builtin "function.__dict__"), (.builtin "function.__dict__#set")]) #[])
noncomputable abbrev o192 (P : Params) : Obj := (.mk (.type "getset_descriptor") none (.fields #[(.str (.ofString "__weakref__") 569), (.ref 296), (.builtin "ExceptionGroup.__weakref__"), .none]) #[])
noncomputable abbrev o193 (P : Params) : Obj := (.mk (.type "super") none (.fields #[(.ref 296), (.ref 296), (.ref 296)]) #[])
noncomputable abbrev o194 (P : Params) : Obj := (.mk (.type "builtin_function_or_method") none (.fields #[(.builtin "object.__init_subclass__"), (.ref 296)]) #[])
noncomputable abbrev o195 (P : Params) : Obj := (.mk .none none (.func (.mk (.ofString "text_of_codes") (.ofString "text_of_codes") fa24 (.stmts fb24) fs24 0 [] .none .none .none .none none .none .none 0)) #[])
noncomputable abbrev o196 (P : Params) : Obj := (.mk (.type "code") none (.fields #[(.str (.ofString "text_of_codes") 576), (.str (.ofString "text_of_codes") 577), (.str (.ofString "/claim/cut.py") 578), (.int 105 0), (.int 1 0), (.int 0 0), (.int 0 0), (.int 3 0), (.ref 301), (.bool true), (.int 181 0), (.ref 302), .none, .none, .none, (.ref 303), (.int 579 0), (.int 105 0), (.str (.ofString "/claim/cut.py") 580)]) #[])
noncomputable abbrev o197 (P : Params) : Obj := (.mk (.type "function") none (.func (.mk (.ofString "text_of_codes") (.ofString "text_of_codes") fa24 (.stmts fb24) fs24 3 [] .none .none .none (.str (.ofString "scheme.chars") 574) none (.ref 304) .none 0)) #[])
noncomputable abbrev o198 (P : Params) : Obj := (.mk .none none (.func (.mk (.ofString "string_codes") (.ofString "string_codes") fa25 (.stmts fb25) fs25 0 [] .none .none .none .none none .none .none 0)) #[])
noncomputable abbrev o199 (P : Params) : Obj := (.mk (.type "code") none (.fields #[(.str (.ofString "string_codes") 582), (.str (.ofString "string_codes") 583), (.str (.ofString "/claim/cut.py") 584), (.int 107 0), (.int 2 0), (.int 0 0), (.int 0 0), (.int 3 0), (.ref 306), (.bool true), (.int 181 0), (.ref 307), .none, .none, .none, (.ref 308), (.int 585 0), (.int 107 0), (.str (.ofString "/claim/cut.py") 586)]) #[])
noncomputable abbrev o200 (P : Params) : Obj := (.mk (.type "function") none (.func (.mk (.ofString "string_codes") (.ofString "string_codes") fa25 (.stmts fb25) fs25 3 [] .none .none .none (.str (.ofString "scheme.chars") 574) none (.ref 309) .none 0)) #[])
noncomputable abbrev o201 (P : Params) : Obj := (.mk .none none (.dict #[(.mk (PyData.keyHash P (.ofString "type.__subclasses__.Exception.0")) (.str (.ofString "type.__subclasses__.Exception.0") 617) (.int 327 0)), (.mk (PyData.keyHash P (.ofString "type.__subclasses__.Exception.n")) (.str (.ofString "type.__subclasses__.Exception.n") 618) (.int 1 0))] 2) #[])
noncomputable abbrev o202 (P : Params) : Obj := (.mk (.type "dict") none (.dict #[(.mk (PyData.keyHash P (.ofString "__name__")) (.str (.ofString "__name__") 165) (.str (.ofString "scheme.objects") 1002)), (.mk (PyData.keyHash P (.ofString "__doc__")) (.str (.ofString "__doc__") 166) .none), (.mk (PyData.keyHash P (.ofString "__package__")) (.str (.ofString "__package__") 167) .none), (.mk (PyData.keyHash P (.ofString "__loader__")) (.str (.ofString "__loader__") 168) (.builtin "__main__.__loader__#opaque")), (.mk (PyData.keyHash P (.ofString "__spec__")) (.str (.ofString "__spec__") 169) .none), (.mk (PyData.keyHash P (.ofString "__annotations__")) (.str (.ofString "__annotations__") 170) (.ref 6)), (.mk (PyData.keyHash P (.ofString "__builtins__")) (.str (.ofString "__builtins__") 171) (.ref 4)), (.mk (PyData.keyHash P (.ofString "__file__")) (.str (.ofString "__file__") 173) (.str (.ofString "/claim/cut.py") 172)), (.mk (PyData.keyHash P (.ofString "__cached__")) (.str (.ofString "__cached__") 174) .none), (.mk (PyData.keyHash P (.ofString "_wall")) (.str (.ofString "_wall") 193) (.ref 21)), (.mk (PyData.keyHash P (.ofString "Special")) (.str (.ofString "Special") 224) (.ref 38)), (.mk (PyData.keyHash P (.ofString "EMPTY")) (.str (.ofString "EMPTY") 230) (.ref 44)), (.mk (PyData.keyHash P (.ofString "UNSPECIFIED")) (.str (.ofString "UNSPECIFIED") 236) (.ref 47)), (.mk (PyData.keyHash P (.ofString "Symbol")) (.str (.ofString "Symbol") 267) (.ref 65)), (.mk (PyData.keyHash P (.ofString "SymbolTable")) (.str (.ofString "SymbolTable") 345) (.ref 128)), (.mk (PyData.keyHash P (.ofString "Pair")) (.str (.ofString "Pair") 377) (.ref 149)), (.mk (PyData.keyHash P (.ofString "Char")) (.str (.ofString "Char") 406) (.ref 170)), (.mk (PyData.keyHash P (.ofString "Text")) (.str (.ofString "Text") 436) (.ref 191)), (.mk (PyData.keyHash P (.ofString "PortRef")) (.str (.ofString "PortRef") 465) (.ref 212)), (.mk (PyData.keyHash P (.ofString "Names")) (.str (.ofString "Names") 573) (.ref 296)), (.mk (PyData.keyHash P (.ofString "text_of_codes")) (.str (.ofString "text_of_codes") 581) (.ref 305)), (.mk (PyData.keyHash P (.ofString "string_codes")) (.str (.ofString "string_codes") 587) (.ref 310)), (.mk (PyData.keyHash P (.ofString "SchemeError")) (.str (.ofString "SchemeError") 620) (.ref 327)), (.mk (PyData.keyHash P (.ofString "WrongKind")) (.str (.ofString "WrongKind") 649) (.ref 347)), (.mk (PyData.keyHash P (.ofString "need")) (.str (.ofString "need") 662) (.ref 356)), (.mk (PyData.keyHash P (.ofString "char_argument")) (.str (.ofString "char_argument") 672) (.ref 363)), (.mk (PyData.keyHash P (.ofString "OUTPUT")) (.str (.ofString "OUTPUT") 676) (.int 0 675)), (.mk (PyData.keyHash P (.ofString "INPUT")) (.str (.ofString "INPUT") 678) (.int 1 677)), (.mk (PyData.keyHash P (.ofString "LINE_END")) (.str (.ofString "LINE_END") 680) (.int 10 679)), (.mk (PyData.keyHash P (.ofString "InPort")) (.str (.ofString "InPort") 726) (.ref 394)), (.mk (PyData.keyHash P (.ofString "OutPort")) (.str (.ofString "OutPort") 765) (.ref 422)), (.mk (PyData.keyHash P (.ofString "PortTable")) (.str (.ofString "PortTable") 868) (.ref 506)), (.mk (PyData.keyHash P (.ofString "port_of")) (.str (.ofString "port_of") 877) (.ref 517)), (.mk (PyData.keyHash P (.ofString "port_argument")) (.str (.ofString "port_argument") 890) (.ref 524)), (.mk (PyData.keyHash P (.ofString "open_argument")) (.str (.ofString "open_argument") 903) (.ref 531)), (.mk (PyData.keyHash P (.ofString "output_for")) (.str (.ofString "output_for") 915) (.ref 538)), (.mk (PyData.keyHash P (.ofString "prim_set_current_output")) (.str (.ofString "prim_set_current_output") 924) (.ref 545)), (.mk (PyData.keyHash P (.ofString "prim_open_output_string")) (.str (.ofString "prim_open_output_string") 933) (.ref 552)), (.mk (PyData.keyHash P (.ofString "prim_get_output_string")) (.str (.ofString "prim_get_output_string") 943) (.ref 559)), (.mk (PyData.keyHash P (.ofString "prim_newline")) (.str (.ofString "prim_newline") 952) (.ref 566)), (.mk (PyData.keyHash P (.ofString "prim_write_char")) (.str (.ofString "prim_write_char") 962) (.ref 573)), (.mk (PyData.keyHash P (.ofString "Setting")) (.str (.ofString "Setting") 1001) (.ref 598))] 42) #[])
noncomputable abbrev o203 (P : Params) : Obj := (.mk .none none (.fields #[(.int 1 0), (.int 0 0), (.ref 20), (.int 5 0), (.int 0 0), (.ref 27), (.int 11 0), (.int 0 0), (.ref 54), (.int 16 0), (.int 0 0), (.ref 75), (.int 46 0), (.int 0 0), (.ref 138), (.int 52 0), (.int 0 0), (.ref 159), (.int 56 0), (.int 0 0), (.ref 180), (.int 61 0), (.int 0 0), (.ref 201), (.int 66 0), (.int 0 0), (.ref 222), (.int 105 0), (.int 0 0), (.ref 304), (.int 107 0), (.int 0 0), (.ref 309), (.int 110 0), (.int 0 0), (.ref 316), (.int 115 0), (.int 0 0), (.ref 336), (.int 123 0), (.int 0 0), (.ref 355), (.int 126 0), (.int 0 0), (.ref 362), (.int 133 0), (.int 0 0), (.ref 369), (.int 146 0), (.int 0 0), (.ref 404), (.int 155 0), (.int 0 0), (.ref 432), (.int 190 0), (.int 0 0), (.ref 516), (.int 192 0), (.int 0 0), (.ref 523), (.int 196 0), (.int 0 0), (.ref 530), (.int 200 0), (.int 0 0), (.ref 537), (.int 203 0), (.int 0 0), (.ref 544), (.int 207 0), (.int 0 0), (.ref 551), (.int 209 0), (.int 0 0), (.ref 558), (.int 212 0), (.int 0 0), (.ref 565), (.int 215 0), (.int 0 0), (.ref 572), (.int 220 0), (.int 0 0), (.ref 579)]) #[])
noncomputable abbrev o204 (P : Params) : Obj := (.mk (.type "type") none (.cls (.mk (.ofString "Names") [(.type "object")] [(.ref 296), (.type "object")] 295 (.ofString "Names") true [] [(.ref 598)] false none false)) #[none, none, (some (.str (.ofString "Names") 468)), (some (.str (.ofString "Names") 476)), (some (.builtin "object.__new__")), (some (.bool true))])
noncomputable abbrev o205 (P : Params) : Obj := (.mk (.type "tuple") none (.seq #[(.type "Exception")] 0) #[])
noncomputable abbrev o206 (P : Params) : Obj := (.mk (.type "dict") none (.dict #[(.mk (PyData.keyHash P (.ofString "__module__")) (.str (.ofString "__module__") 597) (.str (.ofString "scheme.errors") 588)), (.mk (PyData.keyHash P (.ofString "__qualname__")) (.str (.ofString "__qualname__") 599) (.str (.ofString "SchemeError") 598)), (.mk (PyData.keyHash P (.ofString "__firstlineno__")) (.str (.ofString "__firstlineno__") 601) (.int 110 600)), (.mk (PyData.keyHash P (.ofString "__init__")) (.str (.ofString "__init__") 610) (.ref 324)), (.mk (PyData.keyHash P (.ofString "__static_attributes__")) (.str (.ofString "__static_attributes__") 613) (.ref 325))] 5) #[])
noncomputable abbrev o207 (P : Params) : Obj := (.mk .none none (.fields #[(.int 112 0), (.int 4 0), (.ref 323)]) #[])
noncomputable abbrev o208 (P : Params) : Obj := (.mk (.type "code") none (.fields #[(.str (.ofString "SchemeError") 592), (.str (.ofString "SchemeError") 593), (.str (.ofString "/claim/cut.py") 594), (.int 110 0), (.int 0 0), (.int 0 0), (.int 0 0), (.int 0 0), (.ref 314), (.bool false), (.int 181 0), (.ref 315), .none, .none, .none, .none, (.int 595 0), (.int 110 0), (.str (.ofString "/claim/cut.py") 596)]) #[])
noncomputable abbrev o209 (P : Params) : Obj := (.mk (.type "frame") none .plain #[(some (.ref 316)), (some (.ref 3)), (some (.ref 313)), none, (some (.str (.ofString "scheme.errors") 588)), none, (some (.ref 0))])
noncomputable abbrev o210 (P : Params) : Obj := (.mk (.type "tuple") none (.seq #[(.str (.ofString "self") 605), (.str (.ofString "word") 606), (.str (.ofString "irritants") 607)] 0) #[])
noncomputable abbrev o211 (P : Params) : Obj := (.mk .none none (.func (.mk (.ofString "__init__") (.ofString "SchemeError.__init__") fa26 (.stmts fb26) fs26 0 [] .none .none .none .none none .none .none 0)) #[])
noncomputable abbrev o212 (P : Params) : Obj := (.mk (.type "code") none (.fields #[(.str (.ofString "__init__") 602), (.str (.ofString "SchemeError.__init__") 603), (.str (.ofString "/claim/cut.py") 604), (.int 112 0), (.int 3 0), (.int 0 0), (.int 0 0), (.int 3 0), (.ref 318), (.bool true), (.int 181 0), (.ref 319), .none, (.ref 320), (.ref 321), (.ref 322), (.int 608 0), (.int 112 0), (.str (.ofString "/claim/cut.py") 609)]) #[])
noncomputable abbrev o213 (P : Params) : Obj := (.mk (.type "function") none (.func (.mk (.ofString "__init__") (.ofString "SchemeError.__init__") fa26 (.stmts fb26) fs26 3 [] .none .none .none (.str (.ofString "scheme.errors") 588) none (.ref 323) .none 0)) #[])
noncomputable abbrev o214 (P : Params) : Obj := (.mk (.type "tuple") none (.seq #[(.str (.ofString "irritants") 611), (.str (.ofString "word") 612)] 0) #[])
noncomputable abbrev o215 (P : Params) : Obj := (.mk (.type "dict") none (.dict #[(.mk (PyData.keyHash P (.ofString "__module__")) (.str (.ofString "__module__") 597) (.str (.ofString "scheme.errors") 588)), (.mk (PyData.keyHash P (.ofString "__firstlineno__")) (.str (.ofString "__firstlineno__") 601) (.int 110 600)), (.mk (PyData.keyHash P (.ofString "__init__")) (.str (.ofString "__init__") 610) (.ref 324)), (.mk (PyData.keyHash P (.ofString "__static_attributes__")) (.str (.ofString "__static_attributes__") 613) (.ref 325)), (.mk (PyData.keyHash P (.ofString "__weakref__")) (.str (.ofString "__weakref__") 615) (.ref 328)), (.mk (PyData.keyHash P (.ofString "__doc__")) (.str (.ofString "__doc__") 616) .none)] 3) #[])
noncomputable abbrev o216 (P : Params) : Obj := (.mk (.type "type") none (.cls (.mk (.ofString "SchemeError") [(.type "Exception")] [(.ref 327), (.type "Exception"), (.type "BaseException"), (.type "object")] 326 (.ofString "SchemeError") true [] [(.ref 347)] false none false)) #[(some (.ref 311)), none, (some (.str (.ofString "SchemeError") 590)), (some (.str (.ofString "SchemeError") 598)), (some (.builtin "Exception.__new__")), (some (.bool true))])
noncomputable abbrev o217 (P : Params) : Obj := (.mk (.type "getset_descriptor") none (.fields #[(.str (.ofString "__weakref__") 614), (.ref 327), (.builtin "ExceptionGroup.__weakref__"), .none]) #[])
noncomputable abbrev o218 (P : Params) : Obj := (.mk (.type "super") none (.fields #[(.ref 327), (.ref 327), (.ref 327)]) #[])
noncomputable abbrev o219 (P : Params) : Obj := (.mk (.type "builtin_function_or_method") none (.fields #[(.builtin "object.__init_subclass__"), (.ref 327)]) #[])
noncomputable abbrev o220 (P : Params) : Obj := (.mk (.type "tuple") none (.seq #[(.ref 327)] 0) #[])
noncomputable abbrev o221 (P : Params) : Obj := (.mk (.type "dict") none (.dict #[(.mk (PyData.keyHash P (.ofString "__module__")) (.str (.ofString "__module__") 628) (.str (.ofString "scheme.errors") 588)), (.mk (PyData.keyHash P (.ofString "__qualname__")) (.str (.ofString "__qualname__") 630) (.str (.ofString "WrongKind") 629)), (.mk (PyData.keyHash P (.ofString "__firstlineno__")) (.str (.ofString "__firstlineno__") 632) (.int 115 631)), (.mk (PyData.keyHash P (.ofString "__init__")) (.str (.ofString "__init__") 642) (.ref 344)), (.mk (PyData.keyHash P (.ofString "__static_attributes__")) (.str (.ofString "__static_attributes__") 646) (.ref 345))] 5) #[])
noncomputable abbrev o222 (P : Params) : Obj := (.mk .none none (.fields #[(.int 117 0), (.int 4 0), (.ref 343)]) #[])
noncomputable abbrev o223 (P : Params) : Obj := (.mk (.type "code") none (.fields #[(.str (.ofString "WrongKind") 623), (.str (.ofString "WrongKind") 624), (.str (.ofString "/claim/cut.py") 625), (.int 115 0), (.int 0 0), (.int 0 0), (.int 0 0), (.int 0 0), (.ref 334), (.bool false), (.int 181 0), (.ref 335), .none, .none, .none, .none, (.int 626 0), (.int 115 0), (.str (.ofString "/claim/cut.py") 627)]) #[])
noncomputable abbrev o224 (P : Params) : Obj := (.mk (.type "frame") none .plain #[(some (.ref 336)), (some (.ref 3)), (some (.ref 333)), none, (some (.str (.ofString "scheme.errors") 588)), none, (some (.ref 0))])
noncomputable abbrev o225 (P : Params) : Obj := (.mk (.type "tuple") none (.seq #[(.str (.ofString "self") 636), (.str (.ofString "name") 637), (.str (.ofString "place") 638), (.str (.ofString "datum") 639)] 0) #[])
noncomputable abbrev o226 (P : Params) : Obj := (.mk .none none (.func (.mk (.ofString "__init__") (.ofString "WrongKind.__init__") fa27 (.stmts fb27) fs27 0 [] .none .none .none .none none .none .none 0)) #[])
noncomputable abbrev o227 (P : Params) : Obj := (.mk (.type "code") none (.fields #[(.str (.ofString "__init__") 633), (.str (.ofString "WrongKind.__init__") 634), (.str (.ofString "/claim/cut.py") 635), (.int 117 0), (.int 4 0), (.int 0 0), (.int 0 0), (.int 3 0), (.ref 338), (.bool true), (.int 181 0), (.ref 339), .none, (.ref 340), (.ref 341), (.ref 342), (.int 640 0), (.int 117 0), (.str (.ofString "/claim/cut.py") 641)]) #[])
noncomputable abbrev o228 (P : Params) : Obj := (.mk (.type "function") none (.func (.mk (.ofString "__init__") (.ofString "WrongKind.__init__") fa27 (.stmts fb27) fs27 3 [] .none .none .none (.str (.ofString "scheme.errors") 588) none (.ref 343) .none 0)) #[])
noncomputable abbrev o229 (P : Params) : Obj := (.mk (.type "tuple") none (.seq #[(.str (.ofString "datum") 643), (.str (.ofString "name") 644), (.str (.ofString "place") 645)] 0) #[])
noncomputable abbrev o230 (P : Params) : Obj := (.mk (.type "dict") none (.dict #[(.mk (PyData.keyHash P (.ofString "__module__")) (.str (.ofString "__module__") 628) (.str (.ofString "scheme.errors") 588)), (.mk (PyData.keyHash P (.ofString "__firstlineno__")) (.str (.ofString "__firstlineno__") 632) (.int 115 631)), (.mk (PyData.keyHash P (.ofString "__init__")) (.str (.ofString "__init__") 642) (.ref 344)), (.mk (PyData.keyHash P (.ofString "__static_attributes__")) (.str (.ofString "__static_attributes__") 646) (.ref 345)), (.mk (PyData.keyHash P (.ofString "__doc__")) (.str (.ofString "__doc__") 647) .none)] 2) #[])
noncomputable abbrev o231 (P : Params) : Obj := (.mk (.type "type") none (.cls (.mk (.ofString "WrongKind") [(.ref 327)] [(.ref 347), (.ref 327), (.type "Exception"), (.type "BaseException"), (.type "object")] 346 (.ofString "WrongKind") true [] [] false none false)) #[(some (.ref 331)), none, (some (.str (.ofString "WrongKind") 621)), (some (.str (.ofString "WrongKind") 629)), (some (.builtin "Exception.__new__")), (some (.bool true))])
noncomputable abbrev o232 (P : Params) : Obj := (.mk (.type "super") none (.fields #[(.ref 347), (.ref 347), (.ref 347)]) #[])
noncomputable abbrev o233 (P : Params) : Obj := (.mk (.type "builtin_function_or_method") none (.fields #[(.builtin "object.__init_subclass__"), (.ref 347)]) #[])
noncomputable abbrev o234 (P : Params) : Obj := (.mk (.type "tuple") none (.seq #[(.str (.ofString "store") 655), (.str (.ofString "name") 656), (.str (.ofString "place") 657), (.str (.ofString "value") 658), (.str (.ofString "is_good") 659)] 0) #[])
noncomputable abbrev o235 (P : Params) : Obj := (.mk .none none (.func (.mk (.ofString "need") (.ofString "need") fa28 (.stmts fb28) fs28 0 [] .none .none .none .none none .none .none 0)) #[])
noncomputable abbrev o236 (P : Params) : Obj := (.mk (.type "code") none (.fields #[(.str (.ofString "need") 652), (.str (.ofString "need") 653), (.str (.ofString "/claim/cut.py") 654), (.int 123 0), (.int 5 0), (.int 0 0), (.int 0 0), (.int 3 0), (.ref 350), (.bool true), (.int 181 0), (.ref 351), .none, (.ref 352), (.ref 353), (.ref 354), (.int 660 0), (.int 123 0), (.str (.ofString "/claim/cut.py") 661)]) #[])
noncomputable abbrev o237 (P : Params) : Obj := (.mk (.type "function") none (.func (.mk (.ofString "need") (.ofString "need") fa28 (.stmts fb28) fs28 3 [] .none .none .none (.str (.ofString "scheme.checks") 650) none (.ref 355) .none 0)) #[])
noncomputable abbrev o238 (P : Params) : Obj := (.mk (.type "tuple") none (.seq #[(.str (.ofString "store") 666), (.str (.ofString "name") 667), (.str (.ofString "place") 668), (.str (.ofString "value") 669)] 0) #[])
noncomputable abbrev o239 (P : Params) : Obj := (.mk .none none (.func (.mk (.ofString "char_argument") (.ofString "char_argument") fa29 (.stmts fb29) fs29 0 [] .none .none .none .none none .none .none 0)) #[])
noncomputable abbrev o240 (P : Params) : Obj := (.mk (.type "code") none (.fields #[(.str (.ofString "char_argument") 663), (.str (.ofString "char_argument") 664), (.str (.ofString "/claim/cut.py") 665), (.int 126 0), (.int 4 0), (.int 0 0), (.int 0 0), (.int 3 0), (.ref 357), (.bool true), (.int 181 0), (.ref 358), .none, (.ref 359), (.ref 360), (.ref 361), (.int 670 0), (.int 126 0), (.str (.ofString "/claim/cut.py") 671)]) #[])
noncomputable abbrev o241 (P : Params) : Obj := (.mk (.type "function") none (.func (.mk (.ofString "char_argument") (.ofString "char_argument") fa29 (.stmts fb29) fs29 3 [] .none .none .none (.str (.ofString "scheme.checks") 650) none (.ref 362) .none 0)) #[])
noncomputable abbrev o242 (P : Params) : Obj := (.mk (.type "dict") none (.dict #[(.mk (PyData.keyHash P (.ofString "__module__")) (.str (.ofString "__module__") 688) (.str (.ofString "scheme.ports") 673)), (.mk (PyData.keyHash P (.ofString "__qualname__")) (.str (.ofString "__qualname__") 690) (.str (.ofString "InPort") 689)), (.mk (PyData.keyHash P (.ofString "__firstlineno__")) (.str (.ofString "__firstlineno__") 692) (.int 133 691)), (.mk (PyData.keyHash P (.ofString "__init__")) (.str (.ofString "__init__") 700) (.ref 377)), (.mk (PyData.keyHash P (.ofString "next_code")) (.str (.ofString "next_code") 707) (.ref 384)), (.mk (PyData.keyHash P (.ofString "rest_text")) (.str (.ofString "rest_text") 714) (.ref 391)), (.mk (PyData.keyHash P (.ofString "__static_attributes__")) (.str (.ofString "__static_attributes__") 719) (.ref 392))] 7) #[])
noncomputable abbrev o243 (P : Params) : Obj := (.mk .none none (.fields #[(.int 135 0), (.int 4 0), (.ref 376), (.int 141 0), (.int 4 0), (.ref 383), (.int 144 0), (.int 4 0), (.ref 390)]) #[])
noncomputable abbrev o244 (P : Params) : Obj := (.mk (.type "code") none (.fields #[(.str (.ofString "InPort") 683), (.str (.ofString "InPort") 684), (.str (.ofString "/claim/cut.py") 685), (.int 133 0), (.int 0 0), (.int 0 0), (.int 0 0), (.int 0 0), (.ref 367), (.bool false), (.int 181 0), (.ref 368), .none, .none, .none, .none, (.int 686 0), (.int 133 0), (.str (.ofString "/claim/cut.py") 687)]) #[])
noncomputable abbrev o245 (P : Params) : Obj := (.mk (.type "frame") none .plain #[(some (.ref 369)), (some (.ref 3)), (some (.ref 366)), none, (some (.str (.ofString "scheme.ports") 673)), none, (some (.ref 0))])
noncomputable abbrev o246 (P : Params) : Obj := (.mk (.type "tuple") none (.seq #[(.str (.ofString "self") 696), (.str (.ofString "codes") 697)] 0) #[])
noncomputable abbrev o247 (P : Params) : Obj := (.mk .none none (.func (.mk (.ofString "__init__") (.ofString "InPort.__init__") fa30 (.stmts fb30) fs12 0 [] .none .none .none .none none .none .none 0)) #[])
noncomputable abbrev o248 (P : Params) : Obj := (.mk (.type "code") none (.fields #[(.str (.ofString "__init__") 693), (.str (.ofString "InPort.__init__") 694), (.str (.ofString "/claim/cut.py") 695), (.int 135 0), (.int 2 0), (.int 0 0), (.int 0 0), (.int 3 0), (.ref 371), (.bool true), (.int 181 0), (.ref 372), .none, (.ref 373), (.ref 374), (.ref 375), (.int 698 0), (.int 135 0), (.str (.ofString "/claim/cut.py") 699)]) #[])
noncomputable abbrev o249 (P : Params) : Obj := (.mk (.type "function") none (.func (.mk (.ofString "__init__") (.ofString "InPort.__init__") fa30 (.stmts fb30) fs12 3 [] .none .none .none (.str (.ofString "scheme.ports") 673) none (.ref 376) .none 0)) #[])
noncomputable abbrev o250 (P : Params) : Obj := (.mk (.type "tuple") none (.seq #[(.str (.ofString "self") 704)] 0) #[])
noncomputable abbrev o251 (P : Params) : Obj := (.mk .none none (.func (.mk (.ofString "next_code") (.ofString "InPort.next_code") fa31 (.stmts fb31) fs9 0 [] .none .none .none .none none .none .none 0)) #[])
noncomputable abbrev o252 (P : Params) : Obj := (.mk (.type "code") none (.fields #[(.str (.ofString "next_code") 701), (.str (.ofString "InPort.next_code") 702), (.str (.ofString "/claim/cut.py") 703), (.int 141 0), (.int 1 0), (.int 0 0), (.int 0 0), (.int 3 0), (.ref 378), (.bool true), (.int 181 0), (.ref 379), .none, (.ref 380), (.ref 381), (.ref 382), (.int 705 0), (.int 141 0), (.str (.ofString "/claim/cut.py") 706)]) #[])
noncomputable abbrev o253 (P : Params) : Obj := (.mk (.type "function") none (.func (.mk (.ofString "next_code") (.ofString "InPort.next_code") fa31 (.stmts fb31) fs9 3 [] .none .none .none (.str (.ofString "scheme.ports") 673) none (.ref 383) .none 0)) #[])
noncomputable abbrev o254 (P : Params) : Obj := (.mk (.type "tuple") none (.seq #[(.str (.ofString "self") 711)] 0) #[])
noncomputable abbrev o255 (P : Params) : Obj := (.mk .none none (.func (.mk (.ofString "rest_text") (.ofString "InPort.rest_text") fa32 (.stmts fb32) fs9 0 [] .none .none .none .none none .none .none 0)) #[])
noncomputable abbrev o256 (P : Params) : Obj := (.mk (.type "code") none (.fields #[(.str (.ofString "rest_text") 708), (.str (.ofString "InPort.rest_text") 709), (.str (.ofString "/claim/cut.py") 710), (.int 144 0), (.int 1 0), (.int 0 0), (.int 0 0), (.int 3 0), (.ref 385), (.bool true), (.int 181 0), (.ref 386), .none, (.ref 387), (.ref 388), (.ref 389), (.int 712 0), (.int 144 0), (.str (.ofString "/claim/cut.py") 713)]) #[])
noncomputable abbrev o257 (P : Params) : Obj := (.mk (.type "function") none (.func (.mk (.ofString "rest_text") (.ofString "InPort.rest_text") fa32 (.stmts fb32) fs9 3 [] .none .none .none (.str (.ofString "scheme.ports") 673) none (.ref 390) .none 0)) #[])
noncomputable abbrev o258 (P : Params) : Obj := (.mk (.type "tuple") none (.seq #[(.str (.ofString "codes") 715), (.str (.ofString "is_input") 716), (.str (.ofString "is_open") 717), (.str (.ofString "place") 718)] 0) #[])
noncomputable abbrev o259 (P : Params) : Obj := (.mk (.type "dict") none (.dict #[(.mk (PyData.keyHash P (.ofString "__module__")) (.str (.ofString "__module__") 688) (.str (.ofString "scheme.ports") 673)), (.mk (PyData.keyHash P (.ofString "__firstlineno__")) (.str (.ofString "__firstlineno__") 692) (.int 133 691)), (.mk (PyData.keyHash P (.ofString "__init__")) (.str (.ofString "__init__") 700) (.ref 377)), (.mk (PyData.keyHash P (.ofString "next_code")) (.str (.ofString "next_code") 707) (.ref 384)), (.mk (PyData.keyHash P (.ofString "rest_text")) (.str (.ofString "rest_text") 714) (.ref 391)), (.mk (PyData.keyHash P (.ofString "__static_attributes__")) (.str (.ofString "__static_attributes__") 719) (.ref 392)), (.mk (PyData.keyHash P (.ofString "__dict__")) (.str (.ofString "__dict__") 721) (.ref 395)), (.mk (PyData.keyHash P (.ofString "__weakref__")) (.str (.ofString "__weakref__") 723) (.ref 396)), (.mk (PyData.keyHash P (.ofString "__doc__")) (.str (.ofString "__doc__") 724) .none)] 4) #[])
noncomputable abbrev o260 (P : Params) : Obj := (.mk (.type "type") none (.cls (.mk (.ofString "InPort") [(.type "object")] [(.ref 394), (.type "object")] 393 (.ofString "InPort") true [] [] false none false)) #[none, none, (some (.str (.ofString "InPort") 681)), (some (.str (.ofString "InPort") 689)), (some (.builtin "object.__new__")), (some (.bool true))])
noncomputable abbrev o261 (P : Params) : Obj := (.mk (.type "getset_descriptor") none (.fields #[(.str (.ofString "__dict__") 720), (.ref 394), (.builtin "function.__dict__"), (.builtin "function.__dict__#set")]) #[])
noncomputable abbrev o262 (P : Params) : Obj := (.mk (.type "getset_descriptor") none (.fields #[(.str (.ofString "__weakref__") 722), (.ref 394), (.builtin "ExceptionGroup.__weakref__"), .none]) #[])
noncomputable abbrev o263 (P : Params) : Obj := (.mk (.type "super") none (.fields #[(.ref 394), (.ref 394), (.ref 394)]) #[])
noncomputable abbrev o264 (P : Params) : Obj := (.mk (.type "builtin_function_or_method") none (.fields #[(.builtin "object.__init_subclass__"), (.ref 394)]) #[])
noncomputable abbrev o265 (P : Params) : Obj := (.mk (.type "dict") none (.dict #[(.mk (PyData.keyHash P (.ofString "__module__")) (.str (.ofString "__module__") 734) (.str (.ofString "scheme.ports") 673)), (.mk (PyData.keyHash P (.ofString "__qualname__")) (.str (.ofString "__qualname__") 736) (.str (.ofString "OutPort") 735)), (.mk (PyData.keyHash P (.ofString "__firstlineno__")) (.str (.ofString "__firstlineno__") 738) (.int 146 737)), (.mk (PyData.keyHash P (.ofString "__init__")) (.str (.ofString "__init__") 746) (.ref 412)), (.mk (PyData.keyHash P (.ofString "put")) (.str (.ofString "put") 754) (.ref 419)), (.mk (PyData.keyHash P (.ofString "__static_attributes__")) (.str (.ofString "__static_attributes__") 758) (.ref 420))] 6) #[])
noncomputable abbrev o266 (P : Params) : Obj := (.mk .none none (.fields #[(.int 148 0), (.int 4 0), (.ref 411), (.int 153 0), (.int 4 0), (.ref 418)]) #[])
noncomputable abbrev o267 (P : Params) : Obj := (.mk (.type "code") none (.fields #[(.str (.ofString "OutPort") 729), (.str (.ofString "OutPort") 730), (.str (.ofString "/claim/cut.py") 731), (.int 146 0), (.int 0 0), (.int 0 0), (.int 0 0), (.int 0 0), (.ref 402), (.bool false), (.int 181 0), (.ref 403), .none, .none, .none, .none, (.int 732 0), (.int 146 0), (.str (.ofString "/claim/cut.py") 733)]) #[])
noncomputable abbrev o268 (P : Params) : Obj := (.mk (.type "frame") none .plain #[(some (.ref 404)), (some (.ref 3)), (some (.ref 401)), none, (some (.str (.ofString "scheme.ports") 673)), none, (some (.ref 0))])
noncomputable abbrev o269 (P : Params) : Obj := (.mk (.type "tuple") none (.seq #[(.str (.ofString "self") 742), (.str (.ofString "codes") 743)] 0) #[])
noncomputable abbrev o270 (P : Params) : Obj := (.mk .none none (.func (.mk (.ofString "__init__") (.ofString "OutPort.__init__") fa33 (.stmts fb33) fs12 0 [] .none .none .none .none none .none .none 0)) #[])
noncomputable abbrev o271 (P : Params) : Obj := (.mk (.type "code") none (.fields #[(.str (.ofString "__init__") 739), (.str (.ofString "OutPort.__init__") 740), (.str (.ofString "/claim/cut.py") 741), (.int 148 0), (.int 2 0), (.int 0 0), (.int 0 0), (.int 3 0), (.ref 406), (.bool true), (.int 181 0), (.ref 407), .none, (.ref 408), (.ref 409), (.ref 410), (.int 744 0), (.int 148 0), (.str (.ofString "/claim/cut.py") 745)]) #[])
noncomputable abbrev o272 (P : Params) : Obj := (.mk (.type "function") none (.func (.mk (.ofString "__init__") (.ofString "OutPort.__init__") fa33 (.stmts fb33) fs12 3 [] .none .none .none (.str (.ofString "scheme.ports") 673) none (.ref 411) .none 0)) #[])
noncomputable abbrev o273 (P : Params) : Obj := (.mk (.type "tuple") none (.seq #[(.str (.ofString "self") 750), (.str (.ofString "codes") 751)] 0) #[])
noncomputable abbrev o274 (P : Params) : Obj := (.mk .none none (.func (.mk (.ofString "put") (.ofString "OutPort.put") fa34 (.stmts fb34) fs12 0 [] .none .none .none .none none .none .none 0)) #[])
noncomputable abbrev o275 (P : Params) : Obj := (.mk (.type "code") none (.fields #[(.str (.ofString "put") 747), (.str (.ofString "OutPort.put") 748), (.str (.ofString "/claim/cut.py") 749), (.int 153 0), (.int 2 0), (.int 0 0), (.int 0 0), (.int 3 0), (.ref 413), (.bool true), (.int 181 0), (.ref 414), .none, (.ref 415), (.ref 416), (.ref 417), (.int 752 0), (.int 153 0), (.str (.ofString "/claim/cut.py") 753)]) #[])
noncomputable abbrev o276 (P : Params) : Obj := (.mk (.type "function") none (.func (.mk (.ofString "put") (.ofString "OutPort.put") fa34 (.stmts fb34) fs12 3 [] .none .none .none (.str (.ofString "scheme.ports") 673) none (.ref 418) .none 0)) #[])
noncomputable abbrev o277 (P : Params) : Obj := (.mk (.type "tuple") none (.seq #[(.str (.ofString "codes") 755), (.str (.ofString "is_input") 756), (.str (.ofString "is_open") 757)] 0) #[])
noncomputable abbrev o278 (P : Params) : Obj := (.mk (.type "dict") none (.dict #[(.mk (PyData.keyHash P (.ofString "__module__")) (.str (.ofString "__module__") 734) (.str (.ofString "scheme.ports") 673)), (.mk (PyData.keyHash P (.ofString "__firstlineno__")) (.str (.ofString "__firstlineno__") 738) (.int 146 737)), (.mk (PyData.keyHash P (.ofString "__init__")) (.str (.ofString "__init__") 746) (.ref 412)), (.mk (PyData.keyHash P (.ofString "put")) (.str (.ofString "put") 754) (.ref 419)), (.mk (PyData.keyHash P (.ofString "__static_attributes__")) (.str (.ofString "__static_attributes__") 758) (.ref 420)), (.mk (PyData.keyHash P (.ofString "__dict__")) (.str (.ofString "__dict__") 760) (.ref 423)), (.mk (PyData.keyHash P (.ofString "__weakref__")) (.str (.ofString "__weakref__") 762) (.ref 424)), (.mk (PyData.keyHash P (.ofString "__doc__")) (.str (.ofString "__doc__") 763) .none)] 4) #[])
noncomputable abbrev o279 (P : Params) : Obj := (.mk (.type "type") none (.cls (.mk (.ofString "OutPort") [(.type "object")] [(.ref 422), (.type "object")] 421 (.ofString "OutPort") true [] [] false none false)) #[none, none, (some (.str (.ofString "OutPort") 727)), (some (.str (.ofString "OutPort") 735)), (some (.builtin "object.__new__")), (some (.bool true))])
noncomputable abbrev o280 (P : Params) : Obj := (.mk (.type "getset_descriptor") none (.fields #[(.str (.ofString "__dict__") 759), (.ref 422), (.builtin "function.__dict__"), (.builtin "function.__dict__#set")]) #[])
noncomputable abbrev o281 (P : Params) : Obj := (.mk (.type "getset_descriptor") none (.fields #[(.str (.ofString "__weakref__") 761), (.ref 422), (.builtin "ExceptionGroup.__weakref__"), .none]) #[])
noncomputable abbrev o282 (P : Params) : Obj := (.mk (.type "super") none (.fields #[(.ref 422), (.ref 422), (.ref 422)]) #[])
noncomputable abbrev o283 (P : Params) : Obj := (.mk (.type "builtin_function_or_method") none (.fields #[(.builtin "object.__init_subclass__"), (.ref 422)]) #[])
noncomputable abbrev o284 (P : Params) : Obj := (.mk (.type "dict") none (.dict #[(.mk (PyData.keyHash P (.ofString "__module__")) (.str (.ofString "__module__") 773) (.str (.ofString "scheme.ports") 673)), (.mk (PyData.keyHash P (.ofString "__qualname__")) (.str (.ofString "__qualname__") 775) (.str (.ofString "PortTable") 774)), (.mk (PyData.keyHash P (.ofString "__firstlineno__")) (.str (.ofString "__firstlineno__") 777) (.int 155 776)), (.mk (PyData.keyHash P (.ofString "__init__")) (.str (.ofString "__init__") 784) (.ref 440)), (.mk (PyData.keyHash P (.ofString "at")) (.str (.ofString "at") 792) (.ref 447)), (.mk (PyData.keyHash P (.ofString "opened")) (.str (.ofString "opened") 800) (.ref 454)), (.mk (PyData.keyHash P (.ofString "set_input")) (.str (.ofString "set_input") 808) (.ref 461)), (.mk (PyData.keyHash P (.ofString "set_file")) (.str (.ofString "set_file") 817) (.ref 468)), (.mk (PyData.keyHash P (.ofString "has_file")) (.str (.ofString "has_file") 825) (.ref 475)), (.mk (PyData.keyHash P (.ofString "file_text")) (.str (.ofString "file_text") 833) (.ref 482)), (.mk (PyData.keyHash P (.ofString "open_file_in")) (.str (.ofString "open_file_in") 841) (.ref 489)), (.mk (PyData.keyHash P (.ofString "open_file_out")) (.str (.ofString "open_file_out") 849) (.ref 496)), (.mk (PyData.keyHash P (.ofString "output_text")) (.str (.ofString "output_text") 856) (.ref 503)), (.mk (PyData.keyHash P (.ofString "__static_attributes__")) (.str (.ofString "__static_attributes__") 861) (.ref 504))] 14) #[])
noncomputable abbrev o285 (P : Params) : Obj := (.mk .none none (.fields #[(.int 157 0), (.int 4 0), (.ref 439), (.int 163 0), (.int 4 0), (.ref 446), (.int 166 0), (.int 4 0), (.ref 453), (.int 170 0), (.int 4 0), (.ref 460), (.int 173 0), (.int 4 0), (.ref 467), (.int 176 0), (.int 4 0), (.ref 474), (.int 179 0), (.int 4 0), (.ref 481), (.int 182 0), (.int 4 0), (.ref 488), (.int 185 0), (.int 4 0), (.ref 495), (.int 188 0), (.int 4 0), (.ref 502)]) #[])
noncomputable abbrev o286 (P : Params) : Obj := (.mk (.type "code") none (.fields #[(.str (.ofString "PortTable") 768), (.str (.ofString "PortTable") 769), (.str (.ofString "/claim/cut.py") 770), (.int 155 0), (.int 0 0), (.int 0 0), (.int 0 0), (.int 0 0), (.ref 430), (.bool false), (.int 181 0), (.ref 431), .none, .none, .none, .none, (.int 771 0), (.int 155 0), (.str (.ofString "/claim/cut.py") 772)]) #[])
noncomputable abbrev o287 (P : Params) : Obj := (.mk (.type "frame") none .plain #[(some (.ref 432)), (some (.ref 3)), (some (.ref 429)), none, (some (.str (.ofString "scheme.ports") 673)), none, (some (.ref 0))])
noncomputable abbrev o288 (P : Params) : Obj := (.mk (.type "tuple") none (.seq #[(.str (.ofString "self") 781)] 0) #[])
noncomputable abbrev o289 (P : Params) : Obj := (.mk .none none (.func (.mk (.ofString "__init__") (.ofString "PortTable.__init__") fa35 (.stmts fb35) fs35 0 [] .none .none .none .none none .none .none 0)) #[])
noncomputable abbrev o290 (P : Params) : Obj := (.mk (.type "code") none (.fields #[(.str (.ofString "__init__") 778), (.str (.ofString "PortTable.__init__") 779), (.str (.ofString "/claim/cut.py") 780), (.int 157 0), (.int 1 0), (.int 0 0), (.int 0 0), (.int 3 0), (.ref 434), (.bool true), (.int 181 0), (.ref 435), .none, (.ref 436), (.ref 437), (.ref 438), (.int 782 0), (.int 157 0), (.str (.ofString "/claim/cut.py") 783)]) #[])
noncomputable abbrev o291 (P : Params) : Obj := (.mk (.type "function") none (.func (.mk (.ofString "__init__") (.ofString "PortTable.__init__") fa35 (.stmts fb35) fs35 3 [] .none .none .none (.str (.ofString "scheme.ports") 673) none (.ref 439) .none 0)) #[])
noncomputable abbrev o292 (P : Params) : Obj := (.mk (.type "tuple") none (.seq #[(.str (.ofString "self") 788), (.str (.ofString "number") 789)] 0) #[])
noncomputable abbrev o293 (P : Params) : Obj := (.mk .none none (.func (.mk (.ofString "at") (.ofString "PortTable.at") fa36 (.stmts fb36) fs6 0 [] .none .none .none .none none .none .none 0)) #[])
noncomputable abbrev o294 (P : Params) : Obj := (.mk (.type "code") none (.fields #[(.str (.ofString "at") 785), (.str (.ofString "PortTable.at") 786), (.str (.ofString "/claim/cut.py") 787), (.int 163 0), (.int 2 0), (.int 0 0), (.int 0 0), (.int 3 0), (.ref 441), (.bool true), (.int 181 0), (.ref 442), .none, (.ref 443), (.ref 444), (.ref 445), (.int 790 0), (.int 163 0), (.str (.ofString "/claim/cut.py") 791)]) #[])
noncomputable abbrev o295 (P : Params) : Obj := (.mk (.type "function") none (.func (.mk (.ofString "at") (.ofString "PortTable.at") fa36 (.stmts fb36) fs6 3 [] .none .none .none (.str (.ofString "scheme.ports") 673) none (.ref 446) .none 0)) #[])
noncomputable abbrev o296 (P : Params) : Obj := (.mk (.type "tuple") none (.seq #[(.str (.ofString "self") 796), (.str (.ofString "port") 797)] 0) #[])
noncomputable abbrev o297 (P : Params) : Obj := (.mk .none none (.func (.mk (.ofString "opened") (.ofString "PortTable.opened") fa37 (.stmts fb37) fs37 0 [] .none .none .none .none none .none .none 0)) #[])
noncomputable abbrev o298 (P : Params) : Obj := (.mk (.type "code") none (.fields #[(.str (.ofString "opened") 793), (.str (.ofString "PortTable.opened") 794), (.str (.ofString "/claim/cut.py") 795), (.int 166 0), (.int 2 0), (.int 0 0), (.int 0 0), (.int 3 0), (.ref 448), (.bool true), (.int 181 0), (.ref 449), .none, (.ref 450), (.ref 451), (.ref 452), (.int 798 0), (.int 166 0), (.str (.ofString "/claim/cut.py") 799)]) #[])
noncomputable abbrev o299 (P : Params) : Obj := (.mk (.type "function") none (.func (.mk (.ofString "opened") (.ofString "PortTable.opened") fa37 (.stmts fb37) fs37 3 [] .none .none .none (.str (.ofString "scheme.ports") 673) none (.ref 453) .none 0)) #[])
noncomputable abbrev o300 (P : Params) : Obj := (.mk (.type "tuple") none (.seq #[(.str (.ofString "self") 804), (.str (.ofString "text") 805)] 0) #[])
noncomputable abbrev o301 (P : Params) : Obj := (.mk .none none (.func (.mk (.ofString "set_input") (.ofString "PortTable.set_input") fa38 (.stmts fb38) fs7 0 [] .none .none .none .none none .none .none 0)) #[])
noncomputable abbrev o302 (P : Params) : Obj := (.mk (.type "code") none (.fields #[(.str (.ofString "set_input") 801), (.str (.ofString "PortTable.set_input") 802), (.str (.ofString "/claim/cut.py") 803), (.int 170 0), (.int 2 0), (.int 0 0), (.int 0 0), (.int 3 0), (.ref 455), (.bool true), (.int 181 0), (.ref 456), .none, (.ref 457), (.ref 458), (.ref 459), (.int 806 0), (.int 170 0), (.str (.ofString "/claim/cut.py") 807)]) #[])
noncomputable abbrev o303 (P : Params) : Obj := (.mk (.type "function") none (.func (.mk (.ofString "set_input") (.ofString "PortTable.set_input") fa38 (.stmts fb38) fs7 3 [] .none .none .none (.str (.ofString "scheme.ports") 673) none (.ref 460) .none 0)) #[])
noncomputable abbrev o304 (P : Params) : Obj := (.mk (.type "tuple") none (.seq #[(.str (.ofString "self") 812), (.str (.ofString "name") 813), (.str (.ofString "text") 814)] 0) #[])
noncomputable abbrev o305 (P : Params) : Obj := (.mk .none none (.func (.mk (.ofString "set_file") (.ofString "PortTable.set_file") fa39 (.stmts fb39) fs39 0 [] .none .none .none .none none .none .none 0)) #[])
noncomputable abbrev o306 (P : Params) : Obj := (.mk (.type "code") none (.fields #[(.str (.ofString "set_file") 809), (.str (.ofString "PortTable.set_file") 810), (.str (.ofString "/claim/cut.py") 811), (.int 173 0), (.int 3 0), (.int 0 0), (.int 0 0), (.int 3 0), (.ref 462), (.bool true), (.int 181 0), (.ref 463), .none, (.ref 464), (.ref 465), (.ref 466), (.int 815 0), (.int 173 0), (.str (.ofString "/claim/cut.py") 816)]) #[])
noncomputable abbrev o307 (P : Params) : Obj := (.mk (.type "function") none (.func (.mk (.ofString "set_file") (.ofString "PortTable.set_file") fa39 (.stmts fb39) fs39 3 [] .none .none .none (.str (.ofString "scheme.ports") 673) none (.ref 467) .none 0)) #[])
noncomputable abbrev o308 (P : Params) : Obj := (.mk (.type "tuple") none (.seq #[(.str (.ofString "self") 821), (.str (.ofString "name") 822)] 0) #[])
noncomputable abbrev o309 (P : Params) : Obj := (.mk .none none (.func (.mk (.ofString "has_file") (.ofString "PortTable.has_file") fa40 (.stmts fb40) fs40 0 [] .none .none .none .none none .none .none 0)) #[])
noncomputable abbrev o310 (P : Params) : Obj := (.mk (.type "code") none (.fields #[(.str (.ofString "has_file") 818), (.str (.ofString "PortTable.has_file") 819), (.str (.ofString "/claim/cut.py") 820), (.int 176 0), (.int 2 0), (.int 0 0), (.int 0 0), (.int 3 0), (.ref 469), (.bool true), (.int 181 0), (.ref 470), .none, (.ref 471), (.ref 472), (.ref 473), (.int 823 0), (.int 176 0), (.str (.ofString "/claim/cut.py") 824)]) #[])
noncomputable abbrev o311 (P : Params) : Obj := (.mk (.type "function") none (.func (.mk (.ofString "has_file") (.ofString "PortTable.has_file") fa40 (.stmts fb40) fs40 3 [] .none .none .none (.str (.ofString "scheme.ports") 673) none (.ref 474) .none 0)) #[])
noncomputable abbrev o312 (P : Params) : Obj := (.mk (.type "tuple") none (.seq #[(.str (.ofString "self") 829), (.str (.ofString "name") 830)] 0) #[])
noncomputable abbrev o313 (P : Params) : Obj := (.mk .none none (.func (.mk (.ofString "file_text") (.ofString "PortTable.file_text") fa41 (.stmts fb41) fs40 0 [] .none .none .none .none none .none .none 0)) #[])
noncomputable abbrev o314 (P : Params) : Obj := (.mk (.type "code") none (.fields #[(.str (.ofString "file_text") 826), (.str (.ofString "PortTable.file_text") 827), (.str (.ofString "/claim/cut.py") 828), (.int 179 0), (.int 2 0), (.int 0 0), (.int 0 0), (.int 3 0), (.ref 476), (.bool true), (.int 181 0), (.ref 477), .none, (.ref 478), (.ref 479), (.ref 480), (.int 831 0), (.int 179 0), (.str (.ofString "/claim/cut.py") 832)]) #[])
noncomputable abbrev o315 (P : Params) : Obj := (.mk (.type "function") none (.func (.mk (.ofString "file_text") (.ofString "PortTable.file_text") fa41 (.stmts fb41) fs40 3 [] .none .none .none (.str (.ofString "scheme.ports") 673) none (.ref 481) .none 0)) #[])
noncomputable abbrev o316 (P : Params) : Obj := (.mk (.type "tuple") none (.seq #[(.str (.ofString "self") 837), (.str (.ofString "name") 838)] 0) #[])
noncomputable abbrev o317 (P : Params) : Obj := (.mk .none none (.func (.mk (.ofString "open_file_in") (.ofString "PortTable.open_file_in") fa42 (.stmts fb42) fs40 0 [] .none .none .none .none none .none .none 0)) #[])
noncomputable abbrev o318 (P : Params) : Obj := (.mk (.type "code") none (.fields #[(.str (.ofString "open_file_in") 834), (.str (.ofString "PortTable.open_file_in") 835), (.str (.ofString "/claim/cut.py") 836), (.int 182 0), (.int 2 0), (.int 0 0), (.int 0 0), (.int 3 0), (.ref 483), (.bool true), (.int 181 0), (.ref 484), .none, (.ref 485), (.ref 486), (.ref 487), (.int 839 0), (.int 182 0), (.str (.ofString "/claim/cut.py") 840)]) #[])
noncomputable abbrev o319 (P : Params) : Obj := (.mk (.type "function") none (.func (.mk (.ofString "open_file_in") (.ofString "PortTable.open_file_in") fa42 (.stmts fb42) fs40 3 [] .none .none .none (.str (.ofString "scheme.ports") 673) none (.ref 488) .none 0)) #[])
noncomputable abbrev o320 (P : Params) : Obj := (.mk (.type "tuple") none (.seq #[(.str (.ofString "self") 845), (.str (.ofString "name") 846)] 0) #[])
noncomputable abbrev o321 (P : Params) : Obj := (.mk .none none (.func (.mk (.ofString "open_file_out") (.ofString "PortTable.open_file_out") fa43 (.stmts fb43) fs40 0 [] .none .none .none .none none .none .none 0)) #[])
noncomputable abbrev o322 (P : Params) : Obj := (.mk (.type "code") none (.fields #[(.str (.ofString "open_file_out") 842), (.str (.ofString "PortTable.open_file_out") 843), (.str (.ofString "/claim/cut.py") 844), (.int 185 0), (.int 2 0), (.int 0 0), (.int 0 0), (.int 3 0), (.ref 490), (.bool true), (.int 181 0), (.ref 491), .none, (.ref 492), (.ref 493), (.ref 494), (.int 847 0), (.int 185 0), (.str (.ofString "/claim/cut.py") 848)]) #[])
noncomputable abbrev o323 (P : Params) : Obj := (.mk (.type "function") none (.func (.mk (.ofString "open_file_out") (.ofString "PortTable.open_file_out") fa43 (.stmts fb43) fs40 3 [] .none .none .none (.str (.ofString "scheme.ports") 673) none (.ref 495) .none 0)) #[])
noncomputable abbrev o324 (P : Params) : Obj := (.mk (.type "tuple") none (.seq #[(.str (.ofString "self") 853)] 0) #[])
noncomputable abbrev o325 (P : Params) : Obj := (.mk .none none (.func (.mk (.ofString "output_text") (.ofString "PortTable.output_text") fa44 (.stmts fb44) fs44 0 [] .none .none .none .none none .none .none 0)) #[])
noncomputable abbrev o326 (P : Params) : Obj := (.mk (.type "code") none (.fields #[(.str (.ofString "output_text") 850), (.str (.ofString "PortTable.output_text") 851), (.str (.ofString "/claim/cut.py") 852), (.int 188 0), (.int 1 0), (.int 0 0), (.int 0 0), (.int 3 0), (.ref 497), (.bool true), (.int 181 0), (.ref 498), .none, (.ref 499), (.ref 500), (.ref 501), (.int 854 0), (.int 188 0), (.str (.ofString "/claim/cut.py") 855)]) #[])
noncomputable abbrev o327 (P : Params) : Obj := (.mk (.type "function") none (.func (.mk (.ofString "output_text") (.ofString "PortTable.output_text") fa44 (.stmts fb44) fs44 3 [] .none .none .none (.str (.ofString "scheme.ports") 673) none (.ref 502) .none 0)) #[])
noncomputable abbrev o328 (P : Params) : Obj := (.mk (.type "tuple") none (.seq #[(.str (.ofString "current_input") 857), (.str (.ofString "current_output") 858), (.str (.ofString "files") 859), (.str (.ofString "rows") 860)] 0) #[])
noncomputable abbrev o329 (P : Params) : Obj := (.mk (.type "dict") none (.dict #[(.mk (PyData.keyHash P (.ofString "__module__")) (.str (.ofString "__module__") 773) (.str (.ofString "scheme.ports") 673)), (.mk (PyData.keyHash P (.ofString "__firstlineno__")) (.str (.ofString "__firstlineno__") 777) (.int 155 776)), (.mk (PyData.keyHash P (.ofString "__init__")) (.str (.ofString "__init__") 784) (.ref 440)), (.mk (PyData.keyHash P (.ofString "at")) (.str (.ofString "at") 792) (.ref 447)), (.mk (PyData.keyHash P (.ofString "opened")) (.str (.ofString "opened") 800) (.ref 454)), (.mk (PyData.keyHash P (.ofString "set_input")) (.str (.ofString "set_input") 808) (.ref 461)), (.mk (PyData.keyHash P (.ofString "set_file")) (.str (.ofString "set_file") 817) (.ref 468)), (.mk (PyData.keyHash P (.ofString "has_file")) (.str (.ofString "has_file") 825) (.ref 475)), (.mk (PyData.keyHash P (.ofString "file_text")) (.str (.ofString "file_text") 833) (.ref 482)), (.mk (PyData.keyHash P (.ofString "open_file_in")) (.str (.ofString "open_file_in") 841) (.ref 489)), (.mk (PyData.keyHash P (.ofString "open_file_out")) (.str (.ofString "open_file_out") 849) (.ref 496)), (.mk (PyData.keyHash P (.ofString "output_text")) (.str (.ofString "output_text") 856) (.ref 503)), (.mk (PyData.keyHash P (.ofString "__static_attributes__")) (.str (.ofString "__static_attributes__") 861) (.ref 504)), (.mk (PyData.keyHash P (.ofString "__dict__")) (.str (.ofString "__dict__") 863) (.ref 507)), (.mk (PyData.keyHash P (.ofString "__weakref__")) (.str (.ofString "__weakref__") 865) (.ref 508)), (.mk (PyData.keyHash P (.ofString "__doc__")) (.str (.ofString "__doc__") 866) .none)] 4) #[])
noncomputable abbrev o330 (P : Params) : Obj := (.mk (.type "type") none (.cls (.mk (.ofString "PortTable") [(.type "object")] [(.ref 506), (.type "object")] 505 (.ofString "PortTable") true [] [] false none false)) #[none, none, (some (.str (.ofString "PortTable") 766)), (some (.str (.ofString "PortTable") 774)), (some (.builtin "object.__new__")), (some (.bool true))])
noncomputable abbrev o331 (P : Params) : Obj := (.mk (.type "getset_descriptor") none (.fields #[(.str (.ofString "__dict__") 862), (.ref 506), (.builtin "function.__dict__"), (.builtin "function.__dict__#set")]) #[])
noncomputable abbrev o332 (P : Params) : Obj := (.mk (.type "getset_descriptor") none (.fields #[(.str (.ofString "__weakref__") 864), (.ref 506), (.builtin "ExceptionGroup.__weakref__"), .none]) #[])
noncomputable abbrev o333 (P : Params) : Obj := (.mk (.type "super") none (.fields #[(.ref 506), (.ref 506), (.ref 506)]) #[])
noncomputable abbrev o334 (P : Params) : Obj := (.mk (.type "builtin_function_or_method") none (.fields #[(.builtin "object.__init_subclass__"), (.ref 506)]) #[])
noncomputable abbrev o335 (P : Params) : Obj := (.mk (.type "tuple") none (.seq #[(.str (.ofString "world") 872), (.str (.ofString "store") 873), (.str (.ofString "value") 874)] 0) #[])
noncomputable abbrev o336 (P : Params) : Obj := (.mk .none none (.func (.mk (.ofString "port_of") (.ofString "port_of") fa45 (.stmts fb45) fs45 0 [] .none .none .none .none none .none .none 0)) #[])
noncomputable abbrev o337 (P : Params) : Obj := (.mk (.type "code") none (.fields #[(.str (.ofString "port_of") 869), (.str (.ofString "port_of") 870), (.str (.ofString "/claim/cut.py") 871), (.int 190 0), (.int 3 0), (.int 0 0), (.int 0 0), (.int 3 0), (.ref 511), (.bool true), (.int 181 0), (.ref 512), .none, (.ref 513), (.ref 514), (.ref 515), (.int 875 0), (.int 190 0), (.str (.ofString "/claim/cut.py") 876)]) #[])
noncomputable abbrev o338 (P : Params) : Obj := (.mk (.type "function") none (.func (.mk (.ofString "port_of") (.ofString "port_of") fa45 (.stmts fb45) fs45 3 [] .none .none .none (.str (.ofString "scheme.ports") 673) none (.ref 516) .none 0)) #[])
noncomputable abbrev o339 (P : Params) : Obj := (.mk (.type "tuple") none (.seq #[(.str (.ofString "world") 881), (.str (.ofString "store") 882), (.str (.ofString "name") 883), (.str (.ofString "place") 884), (.str (.ofString "value") 885), (.str (.ofString "is_input") 886), (.str (.ofString "port") 887)] 0) #[])
noncomputable abbrev o340 (P : Params) : Obj := (.mk .none none (.func (.mk (.ofString "port_argument") (.ofString "port_argument") fa46 (.stmts fb46) fs46 0 [] .none .none .none .none none .none .none 0)) #[])
noncomputable abbrev o341 (P : Params) : Obj := (.mk (.type "code") none (.fields #[(.str (.ofString "port_argument") 878), (.str (.ofString "port_argument") 879), (.str (.ofString "/claim/cut.py") 880), (.int 192 0), (.int 6 0), (.int 0 0), (.int 0 0), (.int 3 0), (.ref 518), (.bool true), (.int 181 0), (.ref 519), .none, (.ref 520), (.ref 521), (.ref 522), (.int 888 0), (.int 192 0), (.str (.ofString "/claim/cut.py") 889)]) #[])
noncomputable abbrev o342 (P : Params) : Obj := (.mk (.type "function") none (.func (.mk (.ofString "port_argument") (.ofString "port_argument") fa46 (.stmts fb46) fs46 3 [] .none .none .none (.str (.ofString "scheme.ports") 673) none (.ref 523) .none 0)) #[])
noncomputable abbrev o343 (P : Params) : Obj := (.mk (.type "tuple") none (.seq #[(.str (.ofString "world") 894), (.str (.ofString "store") 895), (.str (.ofString "name") 896), (.str (.ofString "place") 897), (.str (.ofString "value") 898), (.str (.ofString "is_input") 899), (.str (.ofString "port") 900)] 0) #[])
noncomputable abbrev o344 (P : Params) : Obj := (.mk .none none (.func (.mk (.ofString "open_argument") (.ofString "open_argument") fa47 (.stmts fb47) fs47 0 [] .none .none .none .none none .none .none 0)) #[])
noncomputable abbrev o345 (P : Params) : Obj := (.mk (.type "code") none (.fields #[(.str (.ofString "open_argument") 891), (.str (.ofString "open_argument") 892), (.str (.ofString "/claim/cut.py") 893), (.int 196 0), (.int 6 0), (.int 0 0), (.int 0 0), (.int 3 0), (.ref 525), (.bool true), (.int 181 0), (.ref 526), .none, (.ref 527), (.ref 528), (.ref 529), (.int 901 0), (.int 196 0), (.str (.ofString "/claim/cut.py") 902)]) #[])
noncomputable abbrev o346 (P : Params) : Obj := (.mk (.type "function") none (.func (.mk (.ofString "open_argument") (.ofString "open_argument") fa47 (.stmts fb47) fs47 3 [] .none .none .none (.str (.ofString "scheme.ports") 673) none (.ref 530) .none 0)) #[])
noncomputable abbrev o347 (P : Params) : Obj := (.mk (.type "tuple") none (.seq #[(.str (.ofString "world") 907), (.str (.ofString "store") 908), (.str (.ofString "name") 909), (.str (.ofString "args") 910), (.str (.ofString "place") 911), (.str (.ofString "value") 912)] 0) #[])
noncomputable abbrev o348 (P : Params) : Obj := (.mk .none none (.func (.mk (.ofString "output_for") (.ofString "output_for") fa48 (.stmts fb48) fs48 0 [] .none .none .none .none none .none .none 0)) #[])
noncomputable abbrev o349 (P : Params) : Obj := (.mk (.type "code") none (.fields #[(.str (.ofString "output_for") 904), (.str (.ofString "output_for") 905), (.str (.ofString "/claim/cut.py") 906), (.int 200 0), (.int 5 0), (.int 0 0), (.int 0 0), (.int 3 0), (.ref 532), (.bool true), (.int 181 0), (.ref 533), .none, (.ref 534), (.ref 535), (.ref 536), (.int 913 0), (.int 200 0), (.str (.ofString "/claim/cut.py") 914)]) #[])
noncomputable abbrev o350 (P : Params) : Obj := (.mk (.type "function") none (.func (.mk (.ofString "output_for") (.ofString "output_for") fa48 (.stmts fb48) fs48 3 [] .none .none .none (.str (.ofString "scheme.ports") 673) none (.ref 537) .none 0)) #[])
noncomputable abbrev o351 (P : Params) : Obj := (.mk (.type "tuple") none (.seq #[(.str (.ofString "world") 919), (.str (.ofString "store") 920), (.str (.ofString "args") 921)] 0) #[])
noncomputable abbrev o352 (P : Params) : Obj := (.mk .none none (.func (.mk (.ofString "prim_set_current_output") (.ofString "prim_set_current_output") fa49 (.stmts fb49) fs49 0 [] .none .none .none .none none .none .none 0)) #[])
noncomputable abbrev o353 (P : Params) : Obj := (.mk (.type "code") none (.fields #[(.str (.ofString "prim_set_current_output") 916), (.str (.ofString "prim_set_current_output") 917), (.str (.ofString "/claim/cut.py") 918), (.int 203 0), (.int 3 0), (.int 0 0), (.int 0 0), (.int 3 0), (.ref 539), (.bool true), (.int 181 0), (.ref 540), .none, (.ref 541), (.ref 542), (.ref 543), (.int 922 0), (.int 203 0), (.str (.ofString "/claim/cut.py") 923)]) #[])
noncomputable abbrev o354 (P : Params) : Obj := (.mk (.type "function") none (.func (.mk (.ofString "prim_set_current_output") (.ofString "prim_set_current_output") fa49 (.stmts fb49) fs49 3 [] .none .none .none (.str (.ofString "scheme.ports") 673) none (.ref 544) .none 0)) #[])
noncomputable abbrev o355 (P : Params) : Obj := (.mk (.type "tuple") none (.seq #[(.str (.ofString "world") 928), (.str (.ofString "store") 929), (.str (.ofString "args") 930)] 0) #[])
noncomputable abbrev o356 (P : Params) : Obj := (.mk .none none (.func (.mk (.ofString "prim_open_output_string") (.ofString "prim_open_output_string") fa50 (.stmts fb50) fs50 0 [] .none .none .none .none none .none .none 0)) #[])
noncomputable abbrev o357 (P : Params) : Obj := (.mk (.type "code") none (.fields #[(.str (.ofString "prim_open_output_string") 925), (.str (.ofString "prim_open_output_string") 926), (.str (.ofString "/claim/cut.py") 927), (.int 207 0), (.int 3 0), (.int 0 0), (.int 0 0), (.int 3 0), (.ref 546), (.bool true), (.int 181 0), (.ref 547), .none, (.ref 548), (.ref 549), (.ref 550), (.int 931 0), (.int 207 0), (.str (.ofString "/claim/cut.py") 932)]) #[])
noncomputable abbrev o358 (P : Params) : Obj := (.mk (.type "function") none (.func (.mk (.ofString "prim_open_output_string") (.ofString "prim_open_output_string") fa50 (.stmts fb50) fs50 3 [] .none .none .none (.str (.ofString "scheme.ports") 673) none (.ref 551) .none 0)) #[])
noncomputable abbrev o359 (P : Params) : Obj := (.mk (.type "tuple") none (.seq #[(.str (.ofString "world") 937), (.str (.ofString "store") 938), (.str (.ofString "args") 939), (.str (.ofString "port") 940)] 0) #[])
noncomputable abbrev o360 (P : Params) : Obj := (.mk .none none (.func (.mk (.ofString "prim_get_output_string") (.ofString "prim_get_output_string") fa51 (.stmts fb51) fs51 0 [] .none .none .none .none none .none .none 0)) #[])
noncomputable abbrev o361 (P : Params) : Obj := (.mk (.type "code") none (.fields #[(.str (.ofString "prim_get_output_string") 934), (.str (.ofString "prim_get_output_string") 935), (.str (.ofString "/claim/cut.py") 936), (.int 209 0), (.int 3 0), (.int 0 0), (.int 0 0), (.int 3 0), (.ref 553), (.bool true), (.int 181 0), (.ref 554), .none, (.ref 555), (.ref 556), (.ref 557), (.int 941 0), (.int 209 0), (.str (.ofString "/claim/cut.py") 942)]) #[])
noncomputable abbrev o362 (P : Params) : Obj := (.mk (.type "function") none (.func (.mk (.ofString "prim_get_output_string") (.ofString "prim_get_output_string") fa51 (.stmts fb51) fs51 3 [] .none .none .none (.str (.ofString "scheme.ports") 673) none (.ref 558) .none 0)) #[])
noncomputable abbrev o363 (P : Params) : Obj := (.mk (.type "tuple") none (.seq #[(.str (.ofString "world") 947), (.str (.ofString "store") 948), (.str (.ofString "args") 949)] 0) #[])
noncomputable abbrev o364 (P : Params) : Obj := (.mk .none none (.func (.mk (.ofString "prim_newline") (.ofString "prim_newline") fa52 (.stmts fb52) fs52 0 [] .none .none .none .none none .none .none 0)) #[])
noncomputable abbrev o365 (P : Params) : Obj := (.mk (.type "code") none (.fields #[(.str (.ofString "prim_newline") 944), (.str (.ofString "prim_newline") 945), (.str (.ofString "/claim/cut.py") 946), (.int 212 0), (.int 3 0), (.int 0 0), (.int 0 0), (.int 3 0), (.ref 560), (.bool true), (.int 181 0), (.ref 561), .none, (.ref 562), (.ref 563), (.ref 564), (.int 950 0), (.int 212 0), (.str (.ofString "/claim/cut.py") 951)]) #[])
noncomputable abbrev o366 (P : Params) : Obj := (.mk (.type "function") none (.func (.mk (.ofString "prim_newline") (.ofString "prim_newline") fa52 (.stmts fb52) fs52 3 [] .none .none .none (.str (.ofString "scheme.ports") 673) none (.ref 565) .none 0)) #[])
noncomputable abbrev o367 (P : Params) : Obj := (.mk (.type "tuple") none (.seq #[(.str (.ofString "world") 956), (.str (.ofString "store") 957), (.str (.ofString "args") 958), (.str (.ofString "code") 959)] 0) #[])
noncomputable abbrev o368 (P : Params) : Obj := (.mk .none none (.func (.mk (.ofString "prim_write_char") (.ofString "prim_write_char") fa53 (.stmts fb53) fs53 0 [] .none .none .none .none none .none .none 0)) #[])
noncomputable abbrev o369 (P : Params) : Obj := (.mk (.type "code") none (.fields #[(.str (.ofString "prim_write_char") 953), (.str (.ofString "prim_write_char") 954), (.str (.ofString "/claim/cut.py") 955), (.int 215 0), (.int 3 0), (.int 0 0), (.int 0 0), (.int 3 0), (.ref 567), (.bool true), (.int 181 0), (.ref 568), .none, (.ref 569), (.ref 570), (.ref 571), (.int 960 0), (.int 215 0), (.str (.ofString "/claim/cut.py") 961)]) #[])
noncomputable abbrev o370 (P : Params) : Obj := (.mk (.type "function") none (.func (.mk (.ofString "prim_write_char") (.ofString "prim_write_char") fa53 (.stmts fb53) fs53 3 [] .none .none .none (.str (.ofString "scheme.ports") 673) none (.ref 572) .none 0)) #[])
noncomputable abbrev o371 (P : Params) : Obj := (.mk (.type "tuple") none (.seq #[(.ref 296)] 0) #[])
noncomputable abbrev o372 (P : Params) : Obj := (.mk (.type "dict") none (.dict #[(.mk (PyData.keyHash P (.ofString "__module__")) (.str (.ofString "__module__") 972) (.str (.ofString "scheme.setting") 963)), (.mk (PyData.keyHash P (.ofString "__qualname__")) (.str (.ofString "__qualname__") 974) (.str (.ofString "Setting") 973)), (.mk (PyData.keyHash P (.ofString "__firstlineno__")) (.str (.ofString "__firstlineno__") 976) (.int 220 975)), (.mk (PyData.keyHash P (.ofString "__init__")) (.str (.ofString "__init__") 986) (.ref 588)), (.mk (PyData.keyHash P (.ofString "take_output")) (.str (.ofString "take_output") 993) (.ref 595)), (.mk (PyData.keyHash P (.ofString "__static_attributes__")) (.str (.ofString "__static_attributes__") 998) (.ref 596))] 6) #[])
noncomputable abbrev o373 (P : Params) : Obj := (.mk .none none (.fields #[(.int 222 0), (.int 4 0), (.ref 587), (.int 229 0), (.int 4 0), (.ref 594)]) #[])
noncomputable abbrev o374 (P : Params) : Obj := (.mk (.type "code") none (.fields #[(.str (.ofString "Setting") 967), (.str (.ofString "Setting") 968), (.str (.ofString "/claim/cut.py") 969), (.int 220 0), (.int 0 0), (.int 0 0), (.int 0 0), (.int 0 0), (.ref 577), (.bool false), (.int 181 0), (.ref 578), .none, .none, .none, .none, (.int 970 0), (.int 220 0), (.str (.ofString "/claim/cut.py") 971)]) #[])
noncomputable abbrev o375 (P : Params) : Obj := (.mk (.type "frame") none .plain #[(some (.ref 579)), (some (.ref 3)), (some (.ref 576)), none, (some (.str (.ofString "scheme.setting") 963)), none, (some (.ref 0))])
noncomputable abbrev o376 (P : Params) : Obj := (.mk (.type "tuple") none (.seq #[(.int 100000 977)] 0) #[])
noncomputable abbrev o377 (P : Params) : Obj := (.mk (.type "tuple") none (.seq #[(.str (.ofString "self") 981), (.str (.ofString "precision") 982), (.str (.ofString "patience") 983)] 0) #[])
noncomputable abbrev o378 (P : Params) : Obj := (.mk .none none (.func (.mk (.ofString "__init__") (.ofString "Setting.__init__") fa54 (.stmts fb54) fs54 0 [] .none .none .none .none none .none .none 0)) #[])
noncomputable abbrev o379 (P : Params) : Obj := (.mk (.type "code") none (.fields #[(.str (.ofString "__init__") 978), (.str (.ofString "Setting.__init__") 979), (.str (.ofString "/claim/cut.py") 980), (.int 222 0), (.int 3 0), (.int 0 0), (.int 0 0), (.int 3 0), (.ref 582), (.bool true), (.int 181 0), (.ref 583), .none, (.ref 584), (.ref 585), (.ref 586), (.int 984 0), (.int 222 0), (.str (.ofString "/claim/cut.py") 985)]) #[])
noncomputable abbrev o380 (P : Params) : Obj := (.mk (.type "function") none (.func (.mk (.ofString "__init__") (.ofString "Setting.__init__") fa54 (.stmts fb54) fs54 3 [] (.ref 581) .none .none (.str (.ofString "scheme.setting") 963) none (.ref 587) .none 0)) #[])
noncomputable abbrev o381 (P : Params) : Obj := (.mk (.type "tuple") none (.seq #[(.str (.ofString "self") 990)] 0) #[])
noncomputable abbrev o382 (P : Params) : Obj := (.mk .none none (.func (.mk (.ofString "take_output") (.ofString "Setting.take_output") fa55 (.stmts fb55) fs3 0 [] .none .none .none .none none .none .none 0)) #[])
noncomputable abbrev o383 (P : Params) : Obj := (.mk (.type "code") none (.fields #[(.str (.ofString "take_output") 987), (.str (.ofString "Setting.take_output") 988), (.str (.ofString "/claim/cut.py") 989), (.int 229 0), (.int 1 0), (.int 0 0), (.int 0 0), (.int 3 0), (.ref 589), (.bool true), (.int 181 0), (.ref 590), .none, (.ref 591), (.ref 592), (.ref 593), (.int 991 0), (.int 229 0), (.str (.ofString "/claim/cut.py") 992)]) #[])
noncomputable abbrev o384 (P : Params) : Obj := (.mk (.type "function") none (.func (.mk (.ofString "take_output") (.ofString "Setting.take_output") fa55 (.stmts fb55) fs3 3 [] .none .none .none (.str (.ofString "scheme.setting") 963) none (.ref 594) .none 0)) #[])
noncomputable abbrev o385 (P : Params) : Obj := (.mk (.type "tuple") none (.seq #[(.str (.ofString "patience") 994), (.str (.ofString "ports") 995), (.str (.ofString "precision") 996), (.str (.ofString "tower") 997)] 0) #[])
noncomputable abbrev o386 (P : Params) : Obj := (.mk (.type "dict") none (.dict #[(.mk (PyData.keyHash P (.ofString "__module__")) (.str (.ofString "__module__") 972) (.str (.ofString "scheme.setting") 963)), (.mk (PyData.keyHash P (.ofString "__firstlineno__")) (.str (.ofString "__firstlineno__") 976) (.int 220 975)), (.mk (PyData.keyHash P (.ofString "__init__")) (.str (.ofString "__init__") 986) (.ref 588)), (.mk (PyData.keyHash P (.ofString "take_output")) (.str (.ofString "take_output") 993) (.ref 595)), (.mk (PyData.keyHash P (.ofString "__static_attributes__")) (.str (.ofString "__static_attributes__") 998) (.ref 596)), (.mk (PyData.keyHash P (.ofString "__doc__")) (.str (.ofString "__doc__") 999) .none)] 2) #[])
noncomputable abbrev o387 (P : Params) : Obj := (.mk (.type "type") none (.cls (.mk (.ofString "Setting") [(.ref 296)] [(.ref 598), (.ref 296), (.type "object")] 597 (.ofString "Setting") true [] [] false none false)) #[(some (.ref 574)), none, (some (.str (.ofString "Setting") 965)), (some (.str (.ofString "Setting") 973)), (some (.builtin "object.__new__")), (some (.bool true))])
noncomputable abbrev o388 (P : Params) : Obj := (.mk (.type "super") none (.fields #[(.ref 598), (.ref 598), (.ref 598)]) #[])
noncomputable abbrev o389 (P : Params) : Obj := (.mk (.type "builtin_function_or_method") none (.fields #[(.builtin "object.__init_subclass__"), (.ref 598)]) #[])
noncomputable abbrev o390 (P : Params) : Obj := (.mk (.type "dict") none (.dict #[(.mk (PyData.keyHash P (.ofString "__name__")) (.str (.ofString "__name__") 165) (.str (.ofString "law_pq1033_01") 1442)), (.mk (PyData.keyHash P (.ofString "__doc__")) (.str (.ofString "__doc__") 166) .none), (.mk (PyData.keyHash P (.ofString "__package__")) (.str (.ofString "__package__") 167) .none), (.mk (PyData.keyHash P (.ofString "__loader__")) (.str (.ofString "__loader__") 168) (.builtin "__main__.__loader__#opaque")), (.mk (PyData.keyHash P (.ofString "__spec__")) (.str (.ofString "__spec__") 169) .none), (.mk (PyData.keyHash P (.ofString "__annotations__")) (.str (.ofString "__annotations__") 170) (.ref 6)), (.mk (PyData.keyHash P (.ofString "__builtins__")) (.str (.ofString "__builtins__") 171) (.ref 4)), (.mk (PyData.keyHash P (.ofString "__file__")) (.str (.ofString "__file__") 173) (.str (.ofString "/claim/cut.py") 172)), (.mk (PyData.keyHash P (.ofString "__cached__")) (.str (.ofString "__cached__") 174) .none), (.mk (PyData.keyHash P (.ofString "_wall")) (.str (.ofString "_wall") 193) (.ref 21)), (.mk (PyData.keyHash P (.ofString "Special")) (.str (.ofString "Special") 224) (.ref 38)), (.mk (PyData.keyHash P (.ofString "EMPTY")) (.str (.ofString "EMPTY") 230) (.ref 44)), (.mk (PyData.keyHash P (.ofString "UNSPECIFIED")) (.str (.ofString "UNSPECIFIED") 236) (.ref 47)), (.mk (PyData.keyHash P (.ofString "Symbol")) (.str (.ofString "Symbol") 267) (.ref 65)), (.mk (PyData.keyHash P (.ofString "SymbolTable")) (.str (.ofString "SymbolTable") 345) (.ref 128)), (.mk (PyData.keyHash P (.ofString "Pair")) (.str (.ofString "Pair") 377) (.ref 149)), (.mk (PyData.keyHash P (.ofString "Char")) (.str (.ofString "Char") 406) (.ref 170)), (.mk (PyData.keyHash P (.ofString "Text")) (.str (.ofString "Text") 436) (.ref 191)), (.mk (PyData.keyHash P (.ofString "PortRef")) (.str (.ofString "PortRef") 465) (.ref 212)), (.mk (PyData.keyHash P (.ofString "Names")) (.str (.ofString "Names") 573) (.ref 296)), (.mk (PyData.keyHash P (.ofString "text_of_codes")) (.str (.ofString "text_of_codes") 581) (.ref 305)), (.mk (PyData.keyHash P (.ofString "string_codes")) (.str (.ofString "string_codes") 587) (.ref 310)), (.mk (PyData.keyHash P (.ofString "SchemeError")) (.str (.ofString "SchemeError") 620) (.ref 327)), (.mk (PyData.keyHash P (.ofString "WrongKind")) (.str (.ofString "WrongKind") 649) (.ref 347)), (.mk (PyData.keyHash P (.ofString "need")) (.str (.ofString "need") 662) (.ref 356)), (.mk (PyData.keyHash P (.ofString "char_argument")) (.str (.ofString "char_argument") 672) (.ref 363)), (.mk (PyData.keyHash P (.ofString "OUTPUT")) (.str (.ofString "OUTPUT") 676) (.int 0 675)), (.mk (PyData.keyHash P (.ofString "INPUT")) (.str (.ofString "INPUT") 678) (.int 1 677)), (.mk (PyData.keyHash P (.ofString "LINE_END")) (.str (.ofString "LINE_END") 680) (.int 10 679)), (.mk (PyData.keyHash P (.ofString "InPort")) (.str (.ofString "InPort") 726) (.ref 394)), (.mk (PyData.keyHash P (.ofString "OutPort")) (.str (.ofString "OutPort") 765) (.ref 422)), (.mk (PyData.keyHash P (.ofString "PortTable")) (.str (.ofString "PortTable") 868) (.ref 506)), (.mk (PyData.keyHash P (.ofString "port_of")) (.str (.ofString "port_of") 877) (.ref 517)), (.mk (PyData.keyHash P (.ofString "port_argument")) (.str (.ofString "port_argument") 890) (.ref 524)), (.mk (PyData.keyHash P (.ofString "open_argument")) (.str (.ofString "open_argument") 903) (.ref 531)), (.mk (PyData.keyHash P (.ofString "output_for")) (.str (.ofString "output_for") 915) (.ref 538)), (.mk (PyData.keyHash P (.ofString "prim_set_current_output")) (.str (.ofString "prim_set_current_output") 924) (.ref 545)), (.mk (PyData.keyHash P (.ofString "prim_open_output_string")) (.str (.ofString "prim_open_output_string") 933) (.ref 552)), (.mk (PyData.keyHash P (.ofString "prim_get_output_string")) (.str (.ofString "prim_get_output_string") 943) (.ref 559)), (.mk (PyData.keyHash P (.ofString "prim_newline")) (.str (.ofString "prim_newline") 952) (.ref 566)), (.mk (PyData.keyHash P (.ofString "prim_write_char")) (.str (.ofString "prim_write_char") 962) (.ref 573)), (.mk (PyData.keyHash P (.ofString "Setting")) (.str (.ofString "Setting") 1001) (.ref 598)), (.mk (PyData.keyHash P (.ofString "ObjectStore")) (.str (.ofString "ObjectStore") 1441) (.ref 967)), (.mk (PyData.keyHash P (.ofString "_law_texts")) (.str (.ofString "_law_texts") 1450) (.ref 972)), (.mk (PyData.keyHash P (.ofString "_law_deck")) (.str (.ofString "_law_deck") 1456) (.ref 977)), (.mk (PyData.keyHash P (.ofString "_law_draw")) (.str (.ofString "_law_draw") 1465) (.ref 984)), (.mk (PyData.keyHash P (.ofString "_law_names")) (.str (.ofString "_law_names") 1471) (.ref 989)), (.mk (PyData.keyHash P (.ofString "_law_written")) (.str (.ofString "_law_written") 1477) (.ref 994)), (.mk (PyData.keyHash P (.ofString "law")) (.str (.ofString "law") 1489) (.ref 1001))] 49) #[])
noncomputable abbrev o391 (P : Params) : Obj := (.mk .none none (.fields #[(.int 1 0), (.int 0 0), (.ref 20), (.int 5 0), (.int 0 0), (.ref 27), (.int 11 0), (.int 0 0), (.ref 54), (.int 16 0), (.int 0 0), (.ref 75), (.int 46 0), (.int 0 0), (.ref 138), (.int 52 0), (.int 0 0), (.ref 159), (.int 56 0), (.int 0 0), (.ref 180), (.int 61 0), (.int 0 0), (.ref 201), (.int 66 0), (.int 0 0), (.ref 222), (.int 105 0), (.int 0 0), (.ref 304), (.int 107 0), (.int 0 0), (.ref 309), (.int 110 0), (.int 0 0), (.ref 316), (.int 115 0), (.int 0 0), (.ref 336), (.int 123 0), (.int 0 0), (.ref 355), (.int 126 0), (.int 0 0), (.ref 362), (.int 133 0), (.int 0 0), (.ref 369), (.int 146 0), (.int 0 0), (.ref 404), (.int 155 0), (.int 0 0), (.ref 432), (.int 190 0), (.int 0 0), (.ref 516), (.int 192 0), (.int 0 0), (.ref 523), (.int 196 0), (.int 0 0), (.ref 530), (.int 200 0), (.int 0 0), (.ref 537), (.int 203 0), (.int 0 0), (.ref 544), (.int 207 0), (.int 0 0), (.ref 551), (.int 209 0), (.int 0 0), (.ref 558), (.int 212 0), (.int 0 0), (.ref 565), (.int 215 0), (.int 0 0), (.ref 572), (.int 220 0), (.int 0 0), (.ref 579), (.int 232 0), (.int 0 0), (.ref 606), (.int 388 0), (.int 0 0), (.ref 976), (.int 390 0), (.int 0 0), (.ref 983), (.int 396 0), (.int 0 0), (.ref 988), (.int 420 0), (.int 0 0), (.ref 993), (.int 444 0), (.int 0 0), (.ref 1000)]) #[])
noncomputable abbrev o392 (P : Params) : Obj := (.mk (.type "dict") none (.dict #[(.mk (PyData.keyHash P (.ofString "__module__")) (.str (.ofString "__module__") 1011) (.str (.ofString "scheme.objects") 1002)), (.mk (PyData.keyHash P (.ofString "__qualname__")) (.str (.ofString "__qualname__") 1013) (.str (.ofString "ObjectStore") 1012)), (.mk (PyData.keyHash P (.ofString "__firstlineno__")) (.str (.ofString "__firstlineno__") 1015) (.int 232 1014)), (.mk (PyData.keyHash P (.ofString "__init__")) (.str (.ofString "__init__") 1023) (.ref 614)), (.mk (PyData.keyHash P (.ofString "boolean")) (.str (.ofString "boolean") 1031) (.ref 621)), (.mk (PyData.keyHash P (.ofString "is_boolean")) (.str (.ofString "is_boolean") 1039) (.ref 628)), (.mk (PyData.keyHash P (.ofString "is_true")) (.str (.ofString "is_true") 1047) (.ref 635)), (.mk (PyData.keyHash P (.ofString "empty")) (.str (.ofString "empty") 1054) (.ref 642)), (.mk (PyData.keyHash P (.ofString "is_empty")) (.str (.ofString "is_empty") 1062) (.ref 649)), (.mk (PyData.keyHash P (.ofString "unspecified")) (.str (.ofString "unspecified") 1069) (.ref 656)), (.mk (PyData.keyHash P (.ofString "unassigned")) (.str (.ofString "unassigned") 1076) (.ref 663)), (.mk (PyData.keyHash P (.ofString "is_unassigned")) (.str (.ofString "is_unassigned") 1084) (.ref 670)), (.mk (PyData.keyHash P (.ofString "eof")) (.str (.ofString "eof") 1091) (.ref 677)), (.mk (PyData.keyHash P (.ofString "is_eof")) (.str (.ofString "is_eof") 1099) (.ref 684)), (.mk (PyData.keyHash P (.ofString "pair")) (.str (.ofString "pair") 1108) (.ref 691)), (.mk (PyData.keyHash P (.ofString "is_pair")) (.str (.ofString "is_pair") 1116) (.ref 698)), (.mk (PyData.keyHash P (.ofString "car")) (.str (.ofString "car") 1124) (.ref 705)), (.mk (PyData.keyHash P (.ofString "cdr")) (.str (.ofString "cdr") 1132) (.ref 712)), (.mk (PyData.keyHash P (.ofString "set_car")) (.str (.ofString "set_car") 1141) (.ref 719)), (.mk (PyData.keyHash P (.ofString "set_cdr")) (.str (.ofString "set_cdr") 1150) (.ref 726)), (.mk (PyData.keyHash P (.ofString "symbol")) (.str (.ofString "symbol") 1158) (.ref 733)), (.mk (PyData.keyHash P (.ofString "is_symbol")) (.str (.ofString "is_symbol") 1166) (.ref 740)), (.mk (PyData.keyHash P (.ofString "symbol_number")) (.str (.ofString "symbol_number") 1174) (.ref 747)), (.mk (PyData.keyHash P (.ofString "char")) (.str (.ofString "char") 1182) (.ref 754)), (.mk (PyData.keyHash P (.ofString "is_char")) (.str (.ofString "is_char") 1190) (.ref 761)), (.mk (PyData.keyHash P (.ofString "char_code")) (.str (.ofString "char_code") 1198) (.ref 768)), (.mk (PyData.keyHash P (.ofString "string")) (.str (.ofString "string") 1206) (.ref 775)), (.mk (PyData.keyHash P (.ofString "is_string")) (.str (.ofString "is_string") 1214) (.ref 782)), (.mk (PyData.keyHash P (.ofString "string_length")) (.str (.ofString "string_length") 1222) (.ref 789)), (.mk (PyData.keyHash P (.ofString "string_code")) (.str (.ofString "string_code") 1231) (.ref 796)), (.mk (PyData.keyHash P (.ofString "set_string_code")) (.str (.ofString "set_string_code") 1241) (.ref 803)), (.mk (PyData.keyHash P (.ofString "vector")) (.str (.ofString "vector") 1249) (.ref 810)), (.mk (PyData.keyHash P (.ofString "is_vector")) (.str (.ofString "is_vector") 1257) (.ref 817)), (.mk (PyData.keyHash P (.ofString "vector_length")) (.str (.ofString "vector_length") 1265) (.ref 824)), (.mk (PyData.keyHash P (.ofString "vector_item")) (.str (.ofString "vector_item") 1274) (.ref 831)), (.mk (PyData.keyHash P (.ofString "set_vector_item")) (.str (.ofString "set_vector_item") 1284) (.ref 838)), (.mk (PyData.keyHash P (.ofString "number")) (.str (.ofString "number") 1292) (.ref 845)), (.mk (PyData.keyHash P (.ofString "is_number")) (.str (.ofString "is_number") 1300) (.ref 852)), (.mk (PyData.keyHash P (.ofString "number_of")) (.str (.ofString "number_of") 1308) (.ref 859)), (.mk (PyData.keyHash P (.ofString "box")) (.str (.ofString "box") 1316) (.ref 866)), (.mk (PyData.keyHash P (.ofString "unbox")) (.str (.ofString "unbox") 1324) (.ref 873)), (.mk (PyData.keyHash P (.ofString "set_box")) (.str (.ofString "set_box") 1333) (.ref 880)), (.mk (PyData.keyHash P (.ofString "promise")) (.str (.ofString "promise") 1342) (.ref 887)), (.mk (PyData.keyHash P (.ofString "is_promise")) (.str (.ofString "is_promise") 1350) (.ref 894)), (.mk (PyData.keyHash P (.ofString "promise_is_done")) (.str (.ofString "promise_is_done") 1358) (.ref 901)), (.mk (PyData.keyHash P (.ofString "promise_content")) (.str (.ofString "promise_content") 1366) (.ref 908)), (.mk (PyData.keyHash P (.ofString "settle")) (.str (.ofString "settle") 1375) (.ref 915)), (.mk (PyData.keyHash P (.ofString "port")) (.str (.ofString "port") 1383) (.ref 922)), (.mk (PyData.keyHash P (.ofString "is_port")) (.str (.ofString "is_port") 1391) (.ref 929)), (.mk (PyData.keyHash P (.ofString "port_number")) (.str (.ofString "port_number") 1399) (.ref 936)), (.mk (PyData.keyHash P (.ofString "is_procedure")) (.str (.ofString "is_procedure") 1407) (.ref 943)), (.mk (PyData.keyHash P (.ofString "same")) (.str (.ofString "same") 1416) (.ref 950)), (.mk (PyData.keyHash P (.ofString "datum")) (.str (.ofString "datum") 1424) (.ref 957)), (.mk (PyData.keyHash P (.ofString "from_datum")) (.str (.ofString "from_datum") 1432) (.ref 964)), (.mk (PyData.keyHash P (.ofString "__static_attributes__")) (.str (.ofString "__static_attributes__") 1434) (.ref 965))] 55) #[])
noncomputable abbrev o393 (P : Params) : Obj := (.mk .none none (.fields #[(.int 234 0), (.int 4 0), (.ref 613), (.int 237 0), (.int 4 0), (.ref 620), (.int 240 0), (.int 4 0), (.ref 627), (.int 243 0), (.int 4 0), (.ref 634), (.int 246 0), (.int 4 0), (.ref 641), (.int 249 0), (.int 4 0), (.ref 648), (.int 252 0), (.int 4 0), (.ref 655), (.int 255 0), (.int 4 0), (.ref 662), (.int 258 0), (.int 4 0), (.ref 669), (.int 261 0), (.int 4 0), (.ref 676), (.int 264 0), (.int 4 0), (.ref 683), (.int 267 0), (.int 4 0), (.ref 690), (.int 270 0), (.int 4 0), (.ref 697), (.int 273 0), (.int 4 0), (.ref 704), (.int 276 0), (.int 4 0), (.ref 711), (.int 279 0), (.int 4 0), (.ref 718), (.int 282 0), (.int 4 0), (.ref 725), (.int 285 0), (.int 4 0), (.ref 732), (.int 288 0), (.int 4 0), (.ref 739), (.int 291 0), (.int 4 0), (.ref 746), (.int 294 0), (.int 4 0), (.ref 753), (.int 297 0), (.int 4 0), (.ref 760), (.int 300 0), (.int 4 0), (.ref 767), (.int 303 0), (.int 4 0), (.ref 774), (.int 306 0), (.int 4 0), (.ref 781), (.int 309 0), (.int 4 0), (.ref 788), (.int 312 0), (.int 4 0), (.ref 795), (.int 315 0), (.int 4 0), (.ref 802), (.int 318 0), (.int 4 0), (.ref 809), (.int 321 0), (.int 4 0), (.ref 816), (.int 324 0), (.int 4 0), (.ref 823), (.int 327 0), (.int 4 0), (.ref 830), (.int 330 0), (.int 4 0), (.ref 837), (.int 333 0), (.int 4 0), (.ref 844), (.int 336 0), (.int 4 0), (.ref 851), (.int 339 0), (.int 4 0), (.ref 858), (.int 342 0), (.int 4 0), (.ref 865), (.int 345 0), (.int 4 0), (.ref 872), (.int 348 0), (.int 4 0), (.ref 879), (.int 351 0), (.int 4 0), (.ref 886), (.int 354 0), (.int 4 0), (.ref 893), (.int 357 0), (.int 4 0), (.ref 900), (.int 360 0), (.int 4 0), (.ref 907), (.int 363 0), (.int 4 0), (.ref 914), (.int 366 0), (.int 4 0), (.ref 921), (.int 369 0), (.int 4 0), (.ref 928), (.int 372 0), (.int 4 0), (.ref 935), (.int 375 0), (.int 4 0), (.ref 942), (.int 378 0), (.int 4 0), (.ref 949), (.int 381 0), (.int 4 0), (.ref 956), (.int 384 0), (.int 4 0), (.ref 963)]) #[])
noncomputable abbrev o394 (P : Params) : Obj := (.mk (.type "code") none (.fields #[(.str (.ofString "ObjectStore") 1006), (.str (.ofString "ObjectStore") 1007), (.str (.ofString "/claim/cut.py") 1008), (.int 232 0), (.int 0 0), (.int 0 0), (.int 0 0), (.int 0 0), (.ref 604), (.bool false), (.int 181 0), (.ref 605), .none, .none, .none, .none, (.int 1009 0), (.int 232 0), (.str (.ofString "/claim/cut.py") 1010)]) #[])
noncomputable abbrev o395 (P : Params) : Obj := (.mk (.type "frame") none .plain #[(some (.ref 606)), (some (.ref 3)), (some (.ref 603)), none, (some (.str (.ofString "scheme.objects") 1002)), none, (some (.ref 0))])
noncomputable abbrev o396 (P : Params) : Obj := (.mk (.type "tuple") none (.seq #[(.str (.ofString "self") 1019), (.str (.ofString "table") 1020)] 0) #[])
noncomputable abbrev o397 (P : Params) : Obj := (.mk .none none (.func (.mk (.ofString "__init__") (.ofString "ObjectStore.__init__") fa56 (.stmts fb56) fs56 0 [] .none .none .none .none none .none .none 0)) #[])
noncomputable abbrev o398 (P : Params) : Obj := (.mk (.type "code") none (.fields #[(.str (.ofString "__init__") 1016), (.str (.ofString "ObjectStore.__init__") 1017), (.str (.ofString "/claim/cut.py") 1018), (.int 234 0), (.int 2 0), (.int 0 0), (.int 0 0), (.int 3 0), (.ref 608), (.bool true), (.int 181 0), (.ref 609), .none, (.ref 610), (.ref 611), (.ref 612), (.int 1021 0), (.int 234 0), (.str (.ofString "/claim/cut.py") 1022)]) #[])
noncomputable abbrev o399 (P : Params) : Obj := (.mk (.type "function") none (.func (.mk (.ofString "__init__") (.ofString "ObjectStore.__init__") fa56 (.stmts fb56) fs56 3 [] .none .none .none (.str (.ofString "scheme.objects") 1002) none (.ref 613) .none 0)) #[])
noncomputable abbrev o400 (P : Params) : Obj := (.mk (.type "tuple") none (.seq #[(.str (.ofString "self") 1027), (.str (.ofString "flag") 1028)] 0) #[])
noncomputable abbrev o401 (P : Params) : Obj := (.mk .none none (.func (.mk (.ofString "boolean") (.ofString "ObjectStore.boolean") fa57 (.stmts fb57) fs57 0 [] .none .none .none .none none .none .none 0)) #[])
noncomputable abbrev o402 (P : Params) : Obj := (.mk (.type "code") none (.fields #[(.str (.ofString "boolean") 1024), (.str (.ofString "ObjectStore.boolean") 1025), (.str (.ofString "/claim/cut.py") 1026), (.int 237 0), (.int 2 0), (.int 0 0), (.int 0 0), (.int 3 0), (.ref 615), (.bool true), (.int 181 0), (.ref 616), .none, (.ref 617), (.ref 618), (.ref 619), (.int 1029 0), (.int 237 0), (.str (.ofString "/claim/cut.py") 1030)]) #[])
noncomputable abbrev o403 (P : Params) : Obj := (.mk (.type "function") none (.func (.mk (.ofString "boolean") (.ofString "ObjectStore.boolean") fa57 (.stmts fb57) fs57 3 [] .none .none .none (.str (.ofString "scheme.objects") 1002) none (.ref 620) .none 0)) #[])
noncomputable abbrev o404 (P : Params) : Obj := (.mk (.type "tuple") none (.seq #[(.str (.ofString "self") 1035), (.str (.ofString "value") 1036)] 0) #[])
noncomputable abbrev o405 (P : Params) : Obj := (.mk .none none (.func (.mk (.ofString "is_boolean") (.ofString "ObjectStore.is_boolean") fa58 (.stmts fb58) fs58 0 [] .none .none .none .none none .none .none 0)) #[])
noncomputable abbrev o406 (P : Params) : Obj := (.mk (.type "code") none (.fields #[(.str (.ofString "is_boolean") 1032), (.str (.ofString "ObjectStore.is_boolean") 1033), (.str (.ofString "/claim/cut.py") 1034), (.int 240 0), (.int 2 0), (.int 0 0), (.int 0 0), (.int 3 0), (.ref 622), (.bool true), (.int 181 0), (.ref 623), .none, (.ref 624), (.ref 625), (.ref 626), (.int 1037 0), (.int 240 0), (.str (.ofString "/claim/cut.py") 1038)]) #[])
noncomputable abbrev o407 (P : Params) : Obj := (.mk (.type "function") none (.func (.mk (.ofString "is_boolean") (.ofString "ObjectStore.is_boolean") fa58 (.stmts fb58) fs58 3 [] .none .none .none (.str (.ofString "scheme.objects") 1002) none (.ref 627) .none 0)) #[])
noncomputable abbrev o408 (P : Params) : Obj := (.mk (.type "tuple") none (.seq #[(.str (.ofString "self") 1043), (.str (.ofString "value") 1044)] 0) #[])
noncomputable abbrev o409 (P : Params) : Obj := (.mk .none none (.func (.mk (.ofString "is_true") (.ofString "ObjectStore.is_true") fa59 (.stmts fb59) fs58 0 [] .none .none .none .none none .none .none 0)) #[])
noncomputable abbrev o410 (P : Params) : Obj := (.mk (.type "code") none (.fields #[(.str (.ofString "is_true") 1040), (.str (.ofString "ObjectStore.is_true") 1041), (.str (.ofString "/claim/cut.py") 1042), (.int 243 0), (.int 2 0), (.int 0 0), (.int 0 0), (.int 3 0), (.ref 629), (.bool true), (.int 181 0), (.ref 630), .none, (.ref 631), (.ref 632), (.ref 633), (.int 1045 0), (.int 243 0), (.str (.ofString "/claim/cut.py") 1046)]) #[])
noncomputable abbrev o411 (P : Params) : Obj := (.mk (.type "function") none (.func (.mk (.ofString "is_true") (.ofString "ObjectStore.is_true") fa59 (.stmts fb59) fs58 3 [] .none .none .none (.str (.ofString "scheme.objects") 1002) none (.ref 634) .none 0)) #[])
noncomputable abbrev o412 (P : Params) : Obj := (.mk (.type "tuple") none (.seq #[(.str (.ofString "self") 1051)] 0) #[])
noncomputable abbrev o413 (P : Params) : Obj := (.mk .none none (.func (.mk (.ofString "empty") (.ofString "ObjectStore.empty") fa60 (.stmts fb60) fs60 0 [] .none .none .none .none none .none .none 0)) #[])
noncomputable abbrev o414 (P : Params) : Obj := (.mk (.type "code") none (.fields #[(.str (.ofString "empty") 1048), (.str (.ofString "ObjectStore.empty") 1049), (.str (.ofString "/claim/cut.py") 1050), (.int 246 0), (.int 1 0), (.int 0 0), (.int 0 0), (.int 3 0), (.ref 636), (.bool true), (.int 181 0), (.ref 637), .none, (.ref 638), (.ref 639), (.ref 640), (.int 1052 0), (.int 246 0), (.str (.ofString "/claim/cut.py") 1053)]) #[])
noncomputable abbrev o415 (P : Params) : Obj := (.mk (.type "function") none (.func (.mk (.ofString "empty") (.ofString "ObjectStore.empty") fa60 (.stmts fb60) fs60 3 [] .none .none .none (.str (.ofString "scheme.objects") 1002) none (.ref 641) .none 0)) #[])
noncomputable abbrev o416 (P : Params) : Obj := (.mk (.type "tuple") none (.seq #[(.str (.ofString "self") 1058), (.str (.ofString "value") 1059)] 0) #[])
noncomputable abbrev o417 (P : Params) : Obj := (.mk .none none (.func (.mk (.ofString "is_empty") (.ofString "ObjectStore.is_empty") fa61 (.stmts fb61) fs58 0 [] .none .none .none .none none .none .none 0)) #[])
noncomputable abbrev o418 (P : Params) : Obj := (.mk (.type "code") none (.fields #[(.str (.ofString "is_empty") 1055), (.str (.ofString "ObjectStore.is_empty") 1056), (.str (.ofString "/claim/cut.py") 1057), (.int 249 0), (.int 2 0), (.int 0 0), (.int 0 0), (.int 3 0), (.ref 643), (.bool true), (.int 181 0), (.ref 644), .none, (.ref 645), (.ref 646), (.ref 647), (.int 1060 0), (.int 249 0), (.str (.ofString "/claim/cut.py") 1061)]) #[])
noncomputable abbrev o419 (P : Params) : Obj := (.mk (.type "function") none (.func (.mk (.ofString "is_empty") (.ofString "ObjectStore.is_empty") fa61 (.stmts fb61) fs58 3 [] .none .none .none (.str (.ofString "scheme.objects") 1002) none (.ref 648) .none 0)) #[])
noncomputable abbrev o420 (P : Params) : Obj := (.mk (.type "tuple") none (.seq #[(.str (.ofString "self") 1066)] 0) #[])
noncomputable abbrev o421 (P : Params) : Obj := (.mk .none none (.func (.mk (.ofString "unspecified") (.ofString "ObjectStore.unspecified") fa62 (.stmts fb62) fs62 0 [] .none .none .none .none none .none .none 0)) #[])
noncomputable abbrev o422 (P : Params) : Obj := (.mk (.type "code") none (.fields #[(.str (.ofString "unspecified") 1063), (.str (.ofString "ObjectStore.unspecified") 1064), (.str (.ofString "/claim/cut.py") 1065), (.int 252 0), (.int 1 0), (.int 0 0), (.int 0 0), (.int 3 0), (.ref 650), (.bool true), (.int 181 0), (.ref 651), .none, (.ref 652), (.ref 653), (.ref 654), (.int 1067 0), (.int 252 0), (.str (.ofString "/claim/cut.py") 1068)]) #[])
noncomputable abbrev o423 (P : Params) : Obj := (.mk (.type "function") none (.func (.mk (.ofString "unspecified") (.ofString "ObjectStore.unspecified") fa62 (.stmts fb62) fs62 3 [] .none .none .none (.str (.ofString "scheme.objects") 1002) none (.ref 655) .none 0)) #[])
noncomputable abbrev o424 (P : Params) : Obj := (.mk (.type "tuple") none (.seq #[(.str (.ofString "self") 1073)] 0) #[])
noncomputable abbrev o425 (P : Params) : Obj := (.mk .none none (.func (.mk (.ofString "unassigned") (.ofString "ObjectStore.unassigned") fa63 (.stmts fb63) fs9 0 [] .none .none .none .none none .none .none 0)) #[])
noncomputable abbrev o426 (P : Params) : Obj := (.mk (.type "code") none (.fields #[(.str (.ofString "unassigned") 1070), (.str (.ofString "ObjectStore.unassigned") 1071), (.str (.ofString "/claim/cut.py") 1072), (.int 255 0), (.int 1 0), (.int 0 0), (.int 0 0), (.int 3 0), (.ref 657), (.bool true), (.int 181 0), (.ref 658), .none, (.ref 659), (.ref 660), (.ref 661), (.int 1074 0), (.int 255 0), (.str (.ofString "/claim/cut.py") 1075)]) #[])
noncomputable abbrev o427 (P : Params) : Obj := (.mk (.type "function") none (.func (.mk (.ofString "unassigned") (.ofString "ObjectStore.unassigned") fa63 (.stmts fb63) fs9 3 [] .none .none .none (.str (.ofString "scheme.objects") 1002) none (.ref 662) .none 0)) #[])
noncomputable abbrev o428 (P : Params) : Obj := (.mk (.type "tuple") none (.seq #[(.str (.ofString "self") 1080), (.str (.ofString "value") 1081)] 0) #[])
noncomputable abbrev o429 (P : Params) : Obj := (.mk .none none (.func (.mk (.ofString "is_unassigned") (.ofString "ObjectStore.is_unassigned") fa64 (.stmts fb64) fs58 0 [] .none .none .none .none none .none .none 0)) #[])
noncomputable abbrev o430 (P : Params) : Obj := (.mk (.type "code") none (.fields #[(.str (.ofString "is_unassigned") 1077), (.str (.ofString "ObjectStore.is_unassigned") 1078), (.str (.ofString "/claim/cut.py") 1079), (.int 258 0), (.int 2 0), (.int 0 0), (.int 0 0), (.int 3 0), (.ref 664), (.bool true), (.int 181 0), (.ref 665), .none, (.ref 666), (.ref 667), (.ref 668), (.int 1082 0), (.int 258 0), (.str (.ofString "/claim/cut.py") 1083)]) #[])
noncomputable abbrev o431 (P : Params) : Obj := (.mk (.type "function") none (.func (.mk (.ofString "is_unassigned") (.ofString "ObjectStore.is_unassigned") fa64 (.stmts fb64) fs58 3 [] .none .none .none (.str (.ofString "scheme.objects") 1002) none (.ref 669) .none 0)) #[])
noncomputable abbrev o432 (P : Params) : Obj := (.mk (.type "tuple") none (.seq #[(.str (.ofString "self") 1088)] 0) #[])
noncomputable abbrev o433 (P : Params) : Obj := (.mk .none none (.func (.mk (.ofString "eof") (.ofString "ObjectStore.eof") fa65 (.stmts fb65) fs9 0 [] .none .none .none .none none .none .none 0)) #[])
noncomputable abbrev o434 (P : Params) : Obj := (.mk (.type "code") none (.fields #[(.str (.ofString "eof") 1085), (.str (.ofString "ObjectStore.eof") 1086), (.str (.ofString "/claim/cut.py") 1087), (.int 261 0), (.int 1 0), (.int 0 0), (.int 0 0), (.int 3 0), (.ref 671), (.bool true), (.int 181 0), (.ref 672), .none, (.ref 673), (.ref 674), (.ref 675), (.int 1089 0), (.int 261 0), (.str (.ofString "/claim/cut.py") 1090)]) #[])
noncomputable abbrev o435 (P : Params) : Obj := (.mk (.type "function") none (.func (.mk (.ofString "eof") (.ofString "ObjectStore.eof") fa65 (.stmts fb65) fs9 3 [] .none .none .none (.str (.ofString "scheme.objects") 1002) none (.ref 676) .none 0)) #[])
noncomputable abbrev o436 (P : Params) : Obj := (.mk (.type "tuple") none (.seq #[(.str (.ofString "self") 1095), (.str (.ofString "value") 1096)] 0) #[])
noncomputable abbrev o437 (P : Params) : Obj := (.mk .none none (.func (.mk (.ofString "is_eof") (.ofString "ObjectStore.is_eof") fa66 (.stmts fb66) fs58 0 [] .none .none .none .none none .none .none 0)) #[])
noncomputable abbrev o438 (P : Params) : Obj := (.mk (.type "code") none (.fields #[(.str (.ofString "is_eof") 1092), (.str (.ofString "ObjectStore.is_eof") 1093), (.str (.ofString "/claim/cut.py") 1094), (.int 264 0), (.int 2 0), (.int 0 0), (.int 0 0), (.int 3 0), (.ref 678), (.bool true), (.int 181 0), (.ref 679), .none, (.ref 680), (.ref 681), (.ref 682), (.int 1097 0), (.int 264 0), (.str (.ofString "/claim/cut.py") 1098)]) #[])
noncomputable abbrev o439 (P : Params) : Obj := (.mk (.type "function") none (.func (.mk (.ofString "is_eof") (.ofString "ObjectStore.is_eof") fa66 (.stmts fb66) fs58 3 [] .none .none .none (.str (.ofString "scheme.objects") 1002) none (.ref 683) .none 0)) #[])
noncomputable abbrev o440 (P : Params) : Obj := (.mk (.type "tuple") none (.seq #[(.str (.ofString "self") 1103), (.str (.ofString "first") 1104), (.str (.ofString "rest") 1105)] 0) #[])
noncomputable abbrev o441 (P : Params) : Obj := (.mk .none none (.func (.mk (.ofString "pair") (.ofString "ObjectStore.pair") fa67 (.stmts fb67) fs67 0 [] .none .none .none .none none .none .none 0)) #[])
noncomputable abbrev o442 (P : Params) : Obj := (.mk (.type "code") none (.fields #[(.str (.ofString "pair") 1100), (.str (.ofString "ObjectStore.pair") 1101), (.str (.ofString "/claim/cut.py") 1102), (.int 267 0), (.int 3 0), (.int 0 0), (.int 0 0), (.int 3 0), (.ref 685), (.bool true), (.int 181 0), (.ref 686), .none, (.ref 687), (.ref 688), (.ref 689), (.int 1106 0), (.int 267 0), (.str (.ofString "/claim/cut.py") 1107)]) #[])
noncomputable abbrev o443 (P : Params) : Obj := (.mk (.type "function") none (.func (.mk (.ofString "pair") (.ofString "ObjectStore.pair") fa67 (.stmts fb67) fs67 3 [] .none .none .none (.str (.ofString "scheme.objects") 1002) none (.ref 690) .none 0)) #[])
noncomputable abbrev o444 (P : Params) : Obj := (.mk (.type "tuple") none (.seq #[(.str (.ofString "self") 1112), (.str (.ofString "value") 1113)] 0) #[])
noncomputable abbrev o445 (P : Params) : Obj := (.mk .none none (.func (.mk (.ofString "is_pair") (.ofString "ObjectStore.is_pair") fa68 (.stmts fb68) fs58 0 [] .none .none .none .none none .none .none 0)) #[])
noncomputable abbrev o446 (P : Params) : Obj := (.mk (.type "code") none (.fields #[(.str (.ofString "is_pair") 1109), (.str (.ofString "ObjectStore.is_pair") 1110), (.str (.ofString "/claim/cut.py") 1111), (.int 270 0), (.int 2 0), (.int 0 0), (.int 0 0), (.int 3 0), (.ref 692), (.bool true), (.int 181 0), (.ref 693), .none, (.ref 694), (.ref 695), (.ref 696), (.int 1114 0), (.int 270 0), (.str (.ofString "/claim/cut.py") 1115)]) #[])
noncomputable abbrev o447 (P : Params) : Obj := (.mk (.type "function") none (.func (.mk (.ofString "is_pair") (.ofString "ObjectStore.is_pair") fa68 (.stmts fb68) fs58 3 [] .none .none .none (.str (.ofString "scheme.objects") 1002) none (.ref 697) .none 0)) #[])
noncomputable abbrev o448 (P : Params) : Obj := (.mk (.type "tuple") none (.seq #[(.str (.ofString "self") 1120), (.str (.ofString "pair") 1121)] 0) #[])
noncomputable abbrev o449 (P : Params) : Obj := (.mk .none none (.func (.mk (.ofString "car") (.ofString "ObjectStore.car") fa69 (.stmts fb69) fs69 0 [] .none .none .none .none none .none .none 0)) #[])
noncomputable abbrev o450 (P : Params) : Obj := (.mk (.type "code") none (.fields #[(.str (.ofString "car") 1117), (.str (.ofString "ObjectStore.car") 1118), (.str (.ofString "/claim/cut.py") 1119), (.int 273 0), (.int 2 0), (.int 0 0), (.int 0 0), (.int 3 0), (.ref 699), (.bool true), (.int 181 0), (.ref 700), .none, (.ref 701), (.ref 702), (.ref 703), (.int 1122 0), (.int 273 0), (.str (.ofString "/claim/cut.py") 1123)]) #[])
noncomputable abbrev o451 (P : Params) : Obj := (.mk (.type "function") none (.func (.mk (.ofString "car") (.ofString "ObjectStore.car") fa69 (.stmts fb69) fs69 3 [] .none .none .none (.str (.ofString "scheme.objects") 1002) none (.ref 704) .none 0)) #[])
noncomputable abbrev o452 (P : Params) : Obj := (.mk (.type "tuple") none (.seq #[(.str (.ofString "self") 1128), (.str (.ofString "pair") 1129)] 0) #[])
noncomputable abbrev o453 (P : Params) : Obj := (.mk .none none (.func (.mk (.ofString "cdr") (.ofString "ObjectStore.cdr") fa70 (.stmts fb70) fs69 0 [] .none .none .none .none none .none .none 0)) #[])
noncomputable abbrev o454 (P : Params) : Obj := (.mk (.type "code") none (.fields #[(.str (.ofString "cdr") 1125), (.str (.ofString "ObjectStore.cdr") 1126), (.str (.ofString "/claim/cut.py") 1127), (.int 276 0), (.int 2 0), (.int 0 0), (.int 0 0), (.int 3 0), (.ref 706), (.bool true), (.int 181 0), (.ref 707), .none, (.ref 708), (.ref 709), (.ref 710), (.int 1130 0), (.int 276 0), (.str (.ofString "/claim/cut.py") 1131)]) #[])
noncomputable abbrev o455 (P : Params) : Obj := (.mk (.type "function") none (.func (.mk (.ofString "cdr") (.ofString "ObjectStore.cdr") fa70 (.stmts fb70) fs69 3 [] .none .none .none (.str (.ofString "scheme.objects") 1002) none (.ref 711) .none 0)) #[])
noncomputable abbrev o456 (P : Params) : Obj := (.mk (.type "tuple") none (.seq #[(.str (.ofString "self") 1136), (.str (.ofString "pair") 1137), (.str (.ofString "value") 1138)] 0) #[])
noncomputable abbrev o457 (P : Params) : Obj := (.mk .none none (.func (.mk (.ofString "set_car") (.ofString "ObjectStore.set_car") fa71 (.stmts fb71) fs71 0 [] .none .none .none .none none .none .none 0)) #[])
noncomputable abbrev o458 (P : Params) : Obj := (.mk (.type "code") none (.fields #[(.str (.ofString "set_car") 1133), (.str (.ofString "ObjectStore.set_car") 1134), (.str (.ofString "/claim/cut.py") 1135), (.int 279 0), (.int 3 0), (.int 0 0), (.int 0 0), (.int 3 0), (.ref 713), (.bool true), (.int 181 0), (.ref 714), .none, (.ref 715), (.ref 716), (.ref 717), (.int 1139 0), (.int 279 0), (.str (.ofString "/claim/cut.py") 1140)]) #[])
noncomputable abbrev o459 (P : Params) : Obj := (.mk (.type "function") none (.func (.mk (.ofString "set_car") (.ofString "ObjectStore.set_car") fa71 (.stmts fb71) fs71 3 [] .none .none .none (.str (.ofString "scheme.objects") 1002) none (.ref 718) .none 0)) #[])
noncomputable abbrev o460 (P : Params) : Obj := (.mk (.type "tuple") none (.seq #[(.str (.ofString "self") 1145), (.str (.ofString "pair") 1146), (.str (.ofString "value") 1147)] 0) #[])
noncomputable abbrev o461 (P : Params) : Obj := (.mk .none none (.func (.mk (.ofString "set_cdr") (.ofString "ObjectStore.set_cdr") fa72 (.stmts fb72) fs71 0 [] .none .none .none .none none .none .none 0)) #[])
noncomputable abbrev o462 (P : Params) : Obj := (.mk (.type "code") none (.fields #[(.str (.ofString "set_cdr") 1142), (.str (.ofString "ObjectStore.set_cdr") 1143), (.str (.ofString "/claim/cut.py") 1144), (.int 282 0), (.int 3 0), (.int 0 0), (.int 0 0), (.int 3 0), (.ref 720), (.bool true), (.int 181 0), (.ref 721), .none, (.ref 722), (.ref 723), (.ref 724), (.int 1148 0), (.int 282 0), (.str (.ofString "/claim/cut.py") 1149)]) #[])
noncomputable abbrev o463 (P : Params) : Obj := (.mk (.type "function") none (.func (.mk (.ofString "set_cdr") (.ofString "ObjectStore.set_cdr") fa72 (.stmts fb72) fs71 3 [] .none .none .none (.str (.ofString "scheme.objects") 1002) none (.ref 725) .none 0)) #[])
noncomputable abbrev o464 (P : Params) : Obj := (.mk (.type "tuple") none (.seq #[(.str (.ofString "self") 1154), (.str (.ofString "number") 1155)] 0) #[])
noncomputable abbrev o465 (P : Params) : Obj := (.mk .none none (.func (.mk (.ofString "symbol") (.ofString "ObjectStore.symbol") fa73 (.stmts fb73) fs6 0 [] .none .none .none .none none .none .none 0)) #[])
noncomputable abbrev o466 (P : Params) : Obj := (.mk (.type "code") none (.fields #[(.str (.ofString "symbol") 1151), (.str (.ofString "ObjectStore.symbol") 1152), (.str (.ofString "/claim/cut.py") 1153), (.int 285 0), (.int 2 0), (.int 0 0), (.int 0 0), (.int 3 0), (.ref 727), (.bool true), (.int 181 0), (.ref 728), .none, (.ref 729), (.ref 730), (.ref 731), (.int 1156 0), (.int 285 0), (.str (.ofString "/claim/cut.py") 1157)]) #[])
noncomputable abbrev o467 (P : Params) : Obj := (.mk (.type "function") none (.func (.mk (.ofString "symbol") (.ofString "ObjectStore.symbol") fa73 (.stmts fb73) fs6 3 [] .none .none .none (.str (.ofString "scheme.objects") 1002) none (.ref 732) .none 0)) #[])
noncomputable abbrev o468 (P : Params) : Obj := (.mk (.type "tuple") none (.seq #[(.str (.ofString "self") 1162), (.str (.ofString "value") 1163)] 0) #[])
noncomputable abbrev o469 (P : Params) : Obj := (.mk .none none (.func (.mk (.ofString "is_symbol") (.ofString "ObjectStore.is_symbol") fa74 (.stmts fb74) fs58 0 [] .none .none .none .none none .none .none 0)) #[])
noncomputable abbrev o470 (P : Params) : Obj := (.mk (.type "code") none (.fields #[(.str (.ofString "is_symbol") 1159), (.str (.ofString "ObjectStore.is_symbol") 1160), (.str (.ofString "/claim/cut.py") 1161), (.int 288 0), (.int 2 0), (.int 0 0), (.int 0 0), (.int 3 0), (.ref 734), (.bool true), (.int 181 0), (.ref 735), .none, (.ref 736), (.ref 737), (.ref 738), (.int 1164 0), (.int 288 0), (.str (.ofString "/claim/cut.py") 1165)]) #[])
noncomputable abbrev o471 (P : Params) : Obj := (.mk (.type "function") none (.func (.mk (.ofString "is_symbol") (.ofString "ObjectStore.is_symbol") fa74 (.stmts fb74) fs58 3 [] .none .none .none (.str (.ofString "scheme.objects") 1002) none (.ref 739) .none 0)) #[])
noncomputable abbrev o472 (P : Params) : Obj := (.mk (.type "tuple") none (.seq #[(.str (.ofString "self") 1170), (.str (.ofString "symbol") 1171)] 0) #[])
noncomputable abbrev o473 (P : Params) : Obj := (.mk .none none (.func (.mk (.ofString "symbol_number") (.ofString "ObjectStore.symbol_number") fa75 (.stmts fb75) fs8 0 [] .none .none .none .none none .none .none 0)) #[])
noncomputable abbrev o474 (P : Params) : Obj := (.mk (.type "code") none (.fields #[(.str (.ofString "symbol_number") 1167), (.str (.ofString "ObjectStore.symbol_number") 1168), (.str (.ofString "/claim/cut.py") 1169), (.int 291 0), (.int 2 0), (.int 0 0), (.int 0 0), (.int 3 0), (.ref 741), (.bool true), (.int 181 0), (.ref 742), .none, (.ref 743), (.ref 744), (.ref 745), (.int 1172 0), (.int 291 0), (.str (.ofString "/claim/cut.py") 1173)]) #[])
noncomputable abbrev o475 (P : Params) : Obj := (.mk (.type "function") none (.func (.mk (.ofString "symbol_number") (.ofString "ObjectStore.symbol_number") fa75 (.stmts fb75) fs8 3 [] .none .none .none (.str (.ofString "scheme.objects") 1002) none (.ref 746) .none 0)) #[])
noncomputable abbrev o476 (P : Params) : Obj := (.mk (.type "tuple") none (.seq #[(.str (.ofString "self") 1178), (.str (.ofString "code") 1179)] 0) #[])
noncomputable abbrev o477 (P : Params) : Obj := (.mk .none none (.func (.mk (.ofString "char") (.ofString "ObjectStore.char") fa76 (.stmts fb76) fs76 0 [] .none .none .none .none none .none .none 0)) #[])
noncomputable abbrev o478 (P : Params) : Obj := (.mk (.type "code") none (.fields #[(.str (.ofString "char") 1175), (.str (.ofString "ObjectStore.char") 1176), (.str (.ofString "/claim/cut.py") 1177), (.int 294 0), (.int 2 0), (.int 0 0), (.int 0 0), (.int 3 0), (.ref 748), (.bool true), (.int 181 0), (.ref 749), .none, (.ref 750), (.ref 751), (.ref 752), (.int 1180 0), (.int 294 0), (.str (.ofString "/claim/cut.py") 1181)]) #[])
noncomputable abbrev o479 (P : Params) : Obj := (.mk (.type "function") none (.func (.mk (.ofString "char") (.ofString "ObjectStore.char") fa76 (.stmts fb76) fs76 3 [] .none .none .none (.str (.ofString "scheme.objects") 1002) none (.ref 753) .none 0)) #[])
noncomputable abbrev o480 (P : Params) : Obj := (.mk (.type "tuple") none (.seq #[(.str (.ofString "self") 1186), (.str (.ofString "value") 1187)] 0) #[])
noncomputable abbrev o481 (P : Params) : Obj := (.mk .none none (.func (.mk (.ofString "is_char") (.ofString "ObjectStore.is_char") fa77 (.stmts fb77) fs77 0 [] .none .none .none .none none .none .none 0)) #[])
noncomputable abbrev o482 (P : Params) : Obj := (.mk (.type "code") none (.fields #[(.str (.ofString "is_char") 1183), (.str (.ofString "ObjectStore.is_char") 1184), (.str (.ofString "/claim/cut.py") 1185), (.int 297 0), (.int 2 0), (.int 0 0), (.int 0 0), (.int 3 0), (.ref 755), (.bool true), (.int 181 0), (.ref 756), .none, (.ref 757), (.ref 758), (.ref 759), (.int 1188 0), (.int 297 0), (.str (.ofString "/claim/cut.py") 1189)]) #[])
noncomputable abbrev o483 (P : Params) : Obj := (.mk (.type "function") none (.func (.mk (.ofString "is_char") (.ofString "ObjectStore.is_char") fa77 (.stmts fb77) fs77 3 [] .none .none .none (.str (.ofString "scheme.objects") 1002) none (.ref 760) .none 0)) #[])
noncomputable abbrev o484 (P : Params) : Obj := (.mk (.type "tuple") none (.seq #[(.str (.ofString "self") 1194), (.str (.ofString "char") 1195)] 0) #[])
noncomputable abbrev o485 (P : Params) : Obj := (.mk .none none (.func (.mk (.ofString "char_code") (.ofString "ObjectStore.char_code") fa78 (.stmts fb78) fs78 0 [] .none .none .none .none none .none .none 0)) #[])
noncomputable abbrev o486 (P : Params) : Obj := (.mk (.type "code") none (.fields #[(.str (.ofString "char_code") 1191), (.str (.ofString "ObjectStore.char_code") 1192), (.str (.ofString "/claim/cut.py") 1193), (.int 300 0), (.int 2 0), (.int 0 0), (.int 0 0), (.int 3 0), (.ref 762), (.bool true), (.int 181 0), (.ref 763), .none, (.ref 764), (.ref 765), (.ref 766), (.int 1196 0), (.int 300 0), (.str (.ofString "/claim/cut.py") 1197)]) #[])
noncomputable abbrev o487 (P : Params) : Obj := (.mk (.type "function") none (.func (.mk (.ofString "char_code") (.ofString "ObjectStore.char_code") fa78 (.stmts fb78) fs78 3 [] .none .none .none (.str (.ofString "scheme.objects") 1002) none (.ref 767) .none 0)) #[])
noncomputable abbrev o488 (P : Params) : Obj := (.mk (.type "tuple") none (.seq #[(.str (.ofString "self") 1202), (.str (.ofString "codes") 1203)] 0) #[])
noncomputable abbrev o489 (P : Params) : Obj := (.mk .none none (.func (.mk (.ofString "string") (.ofString "ObjectStore.string") fa79 (.stmts fb79) fs79 0 [] .none .none .none .none none .none .none 0)) #[])
noncomputable abbrev o490 (P : Params) : Obj := (.mk (.type "code") none (.fields #[(.str (.ofString "string") 1199), (.str (.ofString "ObjectStore.string") 1200), (.str (.ofString "/claim/cut.py") 1201), (.int 303 0), (.int 2 0), (.int 0 0), (.int 0 0), (.int 3 0), (.ref 769), (.bool true), (.int 181 0), (.ref 770), .none, (.ref 771), (.ref 772), (.ref 773), (.int 1204 0), (.int 303 0), (.str (.ofString "/claim/cut.py") 1205)]) #[])
noncomputable abbrev o491 (P : Params) : Obj := (.mk (.type "function") none (.func (.mk (.ofString "string") (.ofString "ObjectStore.string") fa79 (.stmts fb79) fs79 3 [] .none .none .none (.str (.ofString "scheme.objects") 1002) none (.ref 774) .none 0)) #[])
noncomputable abbrev o492 (P : Params) : Obj := (.mk (.type "tuple") none (.seq #[(.str (.ofString "self") 1210), (.str (.ofString "value") 1211)] 0) #[])
noncomputable abbrev o493 (P : Params) : Obj := (.mk .none none (.func (.mk (.ofString "is_string") (.ofString "ObjectStore.is_string") fa80 (.stmts fb80) fs58 0 [] .none .none .none .none none .none .none 0)) #[])
noncomputable abbrev o494 (P : Params) : Obj := (.mk (.type "code") none (.fields #[(.str (.ofString "is_string") 1207), (.str (.ofString "ObjectStore.is_string") 1208), (.str (.ofString "/claim/cut.py") 1209), (.int 306 0), (.int 2 0), (.int 0 0), (.int 0 0), (.int 3 0), (.ref 776), (.bool true), (.int 181 0), (.ref 777), .none, (.ref 778), (.ref 779), (.ref 780), (.int 1212 0), (.int 306 0), (.str (.ofString "/claim/cut.py") 1213)]) #[])
noncomputable abbrev o495 (P : Params) : Obj := (.mk (.type "function") none (.func (.mk (.ofString "is_string") (.ofString "ObjectStore.is_string") fa80 (.stmts fb80) fs58 3 [] .none .none .none (.str (.ofString "scheme.objects") 1002) none (.ref 781) .none 0)) #[])
noncomputable abbrev o496 (P : Params) : Obj := (.mk (.type "tuple") none (.seq #[(.str (.ofString "self") 1218), (.str (.ofString "string") 1219)] 0) #[])
noncomputable abbrev o497 (P : Params) : Obj := (.mk .none none (.func (.mk (.ofString "string_length") (.ofString "ObjectStore.string_length") fa81 (.stmts fb81) fs81 0 [] .none .none .none .none none .none .none 0)) #[])
noncomputable abbrev o498 (P : Params) : Obj := (.mk (.type "code") none (.fields #[(.str (.ofString "string_length") 1215), (.str (.ofString "ObjectStore.string_length") 1216), (.str (.ofString "/claim/cut.py") 1217), (.int 309 0), (.int 2 0), (.int 0 0), (.int 0 0), (.int 3 0), (.ref 783), (.bool true), (.int 181 0), (.ref 784), .none, (.ref 785), (.ref 786), (.ref 787), (.int 1220 0), (.int 309 0), (.str (.ofString "/claim/cut.py") 1221)]) #[])
noncomputable abbrev o499 (P : Params) : Obj := (.mk (.type "function") none (.func (.mk (.ofString "string_length") (.ofString "ObjectStore.string_length") fa81 (.stmts fb81) fs81 3 [] .none .none .none (.str (.ofString "scheme.objects") 1002) none (.ref 788) .none 0)) #[])
noncomputable abbrev o500 (P : Params) : Obj := (.mk (.type "tuple") none (.seq #[(.str (.ofString "self") 1226), (.str (.ofString "string") 1227), (.str (.ofString "place") 1228)] 0) #[])
noncomputable abbrev o501 (P : Params) : Obj := (.mk .none none (.func (.mk (.ofString "string_code") (.ofString "ObjectStore.string_code") fa82 (.stmts fb82) fs82 0 [] .none .none .none .none none .none .none 0)) #[])
noncomputable abbrev o502 (P : Params) : Obj := (.mk (.type "code") none (.fields #[(.str (.ofString "string_code") 1223), (.str (.ofString "ObjectStore.string_code") 1224), (.str (.ofString "/claim/cut.py") 1225), (.int 312 0), (.int 3 0), (.int 0 0), (.int 0 0), (.int 3 0), (.ref 790), (.bool true), (.int 181 0), (.ref 791), .none, (.ref 792), (.ref 793), (.ref 794), (.int 1229 0), (.int 312 0), (.str (.ofString "/claim/cut.py") 1230)]) #[])
noncomputable abbrev o503 (P : Params) : Obj := (.mk (.type "function") none (.func (.mk (.ofString "string_code") (.ofString "ObjectStore.string_code") fa82 (.stmts fb82) fs82 3 [] .none .none .none (.str (.ofString "scheme.objects") 1002) none (.ref 795) .none 0)) #[])
noncomputable abbrev o504 (P : Params) : Obj := (.mk (.type "tuple") none (.seq #[(.str (.ofString "self") 1235), (.str (.ofString "string") 1236), (.str (.ofString "place") 1237), (.str (.ofString "code") 1238)] 0) #[])
noncomputable abbrev o505 (P : Params) : Obj := (.mk .none none (.func (.mk (.ofString "set_string_code") (.ofString "ObjectStore.set_string_code") fa83 (.stmts fb83) fs83 0 [] .none .none .none .none none .none .none 0)) #[])
noncomputable abbrev o506 (P : Params) : Obj := (.mk (.type "code") none (.fields #[(.str (.ofString "set_string_code") 1232), (.str (.ofString "ObjectStore.set_string_code") 1233), (.str (.ofString "/claim/cut.py") 1234), (.int 315 0), (.int 4 0), (.int 0 0), (.int 0 0), (.int 3 0), (.ref 797), (.bool true), (.int 181 0), (.ref 798), .none, (.ref 799), (.ref 800), (.ref 801), (.int 1239 0), (.int 315 0), (.str (.ofString "/claim/cut.py") 1240)]) #[])
noncomputable abbrev o507 (P : Params) : Obj := (.mk (.type "function") none (.func (.mk (.ofString "set_string_code") (.ofString "ObjectStore.set_string_code") fa83 (.stmts fb83) fs83 3 [] .none .none .none (.str (.ofString "scheme.objects") 1002) none (.ref 802) .none 0)) #[])
noncomputable abbrev o508 (P : Params) : Obj := (.mk (.type "tuple") none (.seq #[(.str (.ofString "self") 1245), (.str (.ofString "items") 1246)] 0) #[])
noncomputable abbrev o509 (P : Params) : Obj := (.mk .none none (.func (.mk (.ofString "vector") (.ofString "ObjectStore.vector") fa84 (.stmts fb84) fs84 0 [] .none .none .none .none none .none .none 0)) #[])
noncomputable abbrev o510 (P : Params) : Obj := (.mk (.type "code") none (.fields #[(.str (.ofString "vector") 1242), (.str (.ofString "ObjectStore.vector") 1243), (.str (.ofString "/claim/cut.py") 1244), (.int 318 0), (.int 2 0), (.int 0 0), (.int 0 0), (.int 3 0), (.ref 804), (.bool true), (.int 181 0), (.ref 805), .none, (.ref 806), (.ref 807), (.ref 808), (.int 1247 0), (.int 318 0), (.str (.ofString "/claim/cut.py") 1248)]) #[])
noncomputable abbrev o511 (P : Params) : Obj := (.mk (.type "function") none (.func (.mk (.ofString "vector") (.ofString "ObjectStore.vector") fa84 (.stmts fb84) fs84 3 [] .none .none .none (.str (.ofString "scheme.objects") 1002) none (.ref 809) .none 0)) #[])
noncomputable abbrev o512 (P : Params) : Obj := (.mk (.type "tuple") none (.seq #[(.str (.ofString "self") 1253), (.str (.ofString "value") 1254)] 0) #[])
noncomputable abbrev o513 (P : Params) : Obj := (.mk .none none (.func (.mk (.ofString "is_vector") (.ofString "ObjectStore.is_vector") fa85 (.stmts fb85) fs58 0 [] .none .none .none .none none .none .none 0)) #[])
noncomputable abbrev o514 (P : Params) : Obj := (.mk (.type "code") none (.fields #[(.str (.ofString "is_vector") 1250), (.str (.ofString "ObjectStore.is_vector") 1251), (.str (.ofString "/claim/cut.py") 1252), (.int 321 0), (.int 2 0), (.int 0 0), (.int 0 0), (.int 3 0), (.ref 811), (.bool true), (.int 181 0), (.ref 812), .none, (.ref 813), (.ref 814), (.ref 815), (.int 1255 0), (.int 321 0), (.str (.ofString "/claim/cut.py") 1256)]) #[])
noncomputable abbrev o515 (P : Params) : Obj := (.mk (.type "function") none (.func (.mk (.ofString "is_vector") (.ofString "ObjectStore.is_vector") fa85 (.stmts fb85) fs58 3 [] .none .none .none (.str (.ofString "scheme.objects") 1002) none (.ref 816) .none 0)) #[])
noncomputable abbrev o516 (P : Params) : Obj := (.mk (.type "tuple") none (.seq #[(.str (.ofString "self") 1261), (.str (.ofString "vector") 1262)] 0) #[])
noncomputable abbrev o517 (P : Params) : Obj := (.mk .none none (.func (.mk (.ofString "vector_length") (.ofString "ObjectStore.vector_length") fa86 (.stmts fb86) fs86 0 [] .none .none .none .none none .none .none 0)) #[])
noncomputable abbrev o518 (P : Params) : Obj := (.mk (.type "code") none (.fields #[(.str (.ofString "vector_length") 1258), (.str (.ofString "ObjectStore.vector_length") 1259), (.str (.ofString "/claim/cut.py") 1260), (.int 324 0), (.int 2 0), (.int 0 0), (.int 0 0), (.int 3 0), (.ref 818), (.bool true), (.int 181 0), (.ref 819), .none, (.ref 820), (.ref 821), (.ref 822), (.int 1263 0), (.int 324 0), (.str (.ofString "/claim/cut.py") 1264)]) #[])
noncomputable abbrev o519 (P : Params) : Obj := (.mk (.type "function") none (.func (.mk (.ofString "vector_length") (.ofString "ObjectStore.vector_length") fa86 (.stmts fb86) fs86 3 [] .none .none .none (.str (.ofString "scheme.objects") 1002) none (.ref 823) .none 0)) #[])
noncomputable abbrev o520 (P : Params) : Obj := (.mk (.type "tuple") none (.seq #[(.str (.ofString "self") 1269), (.str (.ofString "vector") 1270), (.str (.ofString "place") 1271)] 0) #[])
noncomputable abbrev o521 (P : Params) : Obj := (.mk .none none (.func (.mk (.ofString "vector_item") (.ofString "ObjectStore.vector_item") fa87 (.stmts fb87) fs87 0 [] .none .none .none .none none .none .none 0)) #[])
noncomputable abbrev o522 (P : Params) : Obj := (.mk (.type "code") none (.fields #[(.str (.ofString "vector_item") 1266), (.str (.ofString "ObjectStore.vector_item") 1267), (.str (.ofString "/claim/cut.py") 1268), (.int 327 0), (.int 3 0), (.int 0 0), (.int 0 0), (.int 3 0), (.ref 825), (.bool true), (.int 181 0), (.ref 826), .none, (.ref 827), (.ref 828), (.ref 829), (.int 1272 0), (.int 327 0), (.str (.ofString "/claim/cut.py") 1273)]) #[])
noncomputable abbrev o523 (P : Params) : Obj := (.mk (.type "function") none (.func (.mk (.ofString "vector_item") (.ofString "ObjectStore.vector_item") fa87 (.stmts fb87) fs87 3 [] .none .none .none (.str (.ofString "scheme.objects") 1002) none (.ref 830) .none 0)) #[])
noncomputable abbrev o524 (P : Params) : Obj := (.mk (.type "tuple") none (.seq #[(.str (.ofString "self") 1278), (.str (.ofString "vector") 1279), (.str (.ofString "place") 1280), (.str (.ofString "value") 1281)] 0) #[])
noncomputable abbrev o525 (P : Params) : Obj := (.mk .none none (.func (.mk (.ofString "set_vector_item") (.ofString "ObjectStore.set_vector_item") fa88 (.stmts fb88) fs88 0 [] .none .none .none .none none .none .none 0)) #[])
noncomputable abbrev o526 (P : Params) : Obj := (.mk (.type "code") none (.fields #[(.str (.ofString "set_vector_item") 1275), (.str (.ofString "ObjectStore.set_vector_item") 1276), (.str (.ofString "/claim/cut.py") 1277), (.int 330 0), (.int 4 0), (.int 0 0), (.int 0 0), (.int 3 0), (.ref 832), (.bool true), (.int 181 0), (.ref 833), .none, (.ref 834), (.ref 835), (.ref 836), (.int 1282 0), (.int 330 0), (.str (.ofString "/claim/cut.py") 1283)]) #[])
noncomputable abbrev o527 (P : Params) : Obj := (.mk (.type "function") none (.func (.mk (.ofString "set_vector_item") (.ofString "ObjectStore.set_vector_item") fa88 (.stmts fb88) fs88 3 [] .none .none .none (.str (.ofString "scheme.objects") 1002) none (.ref 837) .none 0)) #[])
noncomputable abbrev o528 (P : Params) : Obj := (.mk (.type "tuple") none (.seq #[(.str (.ofString "self") 1288), (.str (.ofString "number") 1289)] 0) #[])
noncomputable abbrev o529 (P : Params) : Obj := (.mk .none none (.func (.mk (.ofString "number") (.ofString "ObjectStore.number") fa89 (.stmts fb89) fs6 0 [] .none .none .none .none none .none .none 0)) #[])
noncomputable abbrev o530 (P : Params) : Obj := (.mk (.type "code") none (.fields #[(.str (.ofString "number") 1285), (.str (.ofString "ObjectStore.number") 1286), (.str (.ofString "/claim/cut.py") 1287), (.int 333 0), (.int 2 0), (.int 0 0), (.int 0 0), (.int 3 0), (.ref 839), (.bool true), (.int 181 0), (.ref 840), .none, (.ref 841), (.ref 842), (.ref 843), (.int 1290 0), (.int 333 0), (.str (.ofString "/claim/cut.py") 1291)]) #[])
noncomputable abbrev o531 (P : Params) : Obj := (.mk (.type "function") none (.func (.mk (.ofString "number") (.ofString "ObjectStore.number") fa89 (.stmts fb89) fs6 3 [] .none .none .none (.str (.ofString "scheme.objects") 1002) none (.ref 844) .none 0)) #[])
noncomputable abbrev o532 (P : Params) : Obj := (.mk (.type "tuple") none (.seq #[(.str (.ofString "self") 1296), (.str (.ofString "value") 1297)] 0) #[])
noncomputable abbrev o533 (P : Params) : Obj := (.mk .none none (.func (.mk (.ofString "is_number") (.ofString "ObjectStore.is_number") fa90 (.stmts fb90) fs58 0 [] .none .none .none .none none .none .none 0)) #[])
noncomputable abbrev o534 (P : Params) : Obj := (.mk (.type "code") none (.fields #[(.str (.ofString "is_number") 1293), (.str (.ofString "ObjectStore.is_number") 1294), (.str (.ofString "/claim/cut.py") 1295), (.int 336 0), (.int 2 0), (.int 0 0), (.int 0 0), (.int 3 0), (.ref 846), (.bool true), (.int 181 0), (.ref 847), .none, (.ref 848), (.ref 849), (.ref 850), (.int 1298 0), (.int 336 0), (.str (.ofString "/claim/cut.py") 1299)]) #[])
noncomputable abbrev o535 (P : Params) : Obj := (.mk (.type "function") none (.func (.mk (.ofString "is_number") (.ofString "ObjectStore.is_number") fa90 (.stmts fb90) fs58 3 [] .none .none .none (.str (.ofString "scheme.objects") 1002) none (.ref 851) .none 0)) #[])
noncomputable abbrev o536 (P : Params) : Obj := (.mk (.type "tuple") none (.seq #[(.str (.ofString "self") 1304), (.str (.ofString "value") 1305)] 0) #[])
noncomputable abbrev o537 (P : Params) : Obj := (.mk .none none (.func (.mk (.ofString "number_of") (.ofString "ObjectStore.number_of") fa91 (.stmts fb91) fs58 0 [] .none .none .none .none none .none .none 0)) #[])
noncomputable abbrev o538 (P : Params) : Obj := (.mk (.type "code") none (.fields #[(.str (.ofString "number_of") 1301), (.str (.ofString "ObjectStore.number_of") 1302), (.str (.ofString "/claim/cut.py") 1303), (.int 339 0), (.int 2 0), (.int 0 0), (.int 0 0), (.int 3 0), (.ref 853), (.bool true), (.int 181 0), (.ref 854), .none, (.ref 855), (.ref 856), (.ref 857), (.int 1306 0), (.int 339 0), (.str (.ofString "/claim/cut.py") 1307)]) #[])
noncomputable abbrev o539 (P : Params) : Obj := (.mk (.type "function") none (.func (.mk (.ofString "number_of") (.ofString "ObjectStore.number_of") fa91 (.stmts fb91) fs58 3 [] .none .none .none (.str (.ofString "scheme.objects") 1002) none (.ref 858) .none 0)) #[])
noncomputable abbrev o540 (P : Params) : Obj := (.mk (.type "tuple") none (.seq #[(.str (.ofString "self") 1312), (.str (.ofString "value") 1313)] 0) #[])
noncomputable abbrev o541 (P : Params) : Obj := (.mk .none none (.func (.mk (.ofString "box") (.ofString "ObjectStore.box") fa92 (.stmts fb92) fs58 0 [] .none .none .none .none none .none .none 0)) #[])
noncomputable abbrev o542 (P : Params) : Obj := (.mk (.type "code") none (.fields #[(.str (.ofString "box") 1309), (.str (.ofString "ObjectStore.box") 1310), (.str (.ofString "/claim/cut.py") 1311), (.int 342 0), (.int 2 0), (.int 0 0), (.int 0 0), (.int 3 0), (.ref 860), (.bool true), (.int 181 0), (.ref 861), .none, (.ref 862), (.ref 863), (.ref 864), (.int 1314 0), (.int 342 0), (.str (.ofString "/claim/cut.py") 1315)]) #[])
noncomputable abbrev o543 (P : Params) : Obj := (.mk (.type "function") none (.func (.mk (.ofString "box") (.ofString "ObjectStore.box") fa92 (.stmts fb92) fs58 3 [] .none .none .none (.str (.ofString "scheme.objects") 1002) none (.ref 865) .none 0)) #[])
noncomputable abbrev o544 (P : Params) : Obj := (.mk (.type "tuple") none (.seq #[(.str (.ofString "self") 1320), (.str (.ofString "box") 1321)] 0) #[])
noncomputable abbrev o545 (P : Params) : Obj := (.mk .none none (.func (.mk (.ofString "unbox") (.ofString "ObjectStore.unbox") fa93 (.stmts fb93) fs93 0 [] .none .none .none .none none .none .none 0)) #[])
noncomputable abbrev o546 (P : Params) : Obj := (.mk (.type "code") none (.fields #[(.str (.ofString "unbox") 1317), (.str (.ofString "ObjectStore.unbox") 1318), (.str (.ofString "/claim/cut.py") 1319), (.int 345 0), (.int 2 0), (.int 0 0), (.int 0 0), (.int 3 0), (.ref 867), (.bool true), (.int 181 0), (.ref 868), .none, (.ref 869), (.ref 870), (.ref 871), (.int 1322 0), (.int 345 0), (.str (.ofString "/claim/cut.py") 1323)]) #[])
noncomputable abbrev o547 (P : Params) : Obj := (.mk (.type "function") none (.func (.mk (.ofString "unbox") (.ofString "ObjectStore.unbox") fa93 (.stmts fb93) fs93 3 [] .none .none .none (.str (.ofString "scheme.objects") 1002) none (.ref 872) .none 0)) #[])
noncomputable abbrev o548 (P : Params) : Obj := (.mk (.type "tuple") none (.seq #[(.str (.ofString "self") 1328), (.str (.ofString "box") 1329), (.str (.ofString "value") 1330)] 0) #[])
noncomputable abbrev o549 (P : Params) : Obj := (.mk .none none (.func (.mk (.ofString "set_box") (.ofString "ObjectStore.set_box") fa94 (.stmts fb94) fs94 0 [] .none .none .none .none none .none .none 0)) #[])
noncomputable abbrev o550 (P : Params) : Obj := (.mk (.type "code") none (.fields #[(.str (.ofString "set_box") 1325), (.str (.ofString "ObjectStore.set_box") 1326), (.str (.ofString "/claim/cut.py") 1327), (.int 348 0), (.int 3 0), (.int 0 0), (.int 0 0), (.int 3 0), (.ref 874), (.bool true), (.int 181 0), (.ref 875), .none, (.ref 876), (.ref 877), (.ref 878), (.int 1331 0), (.int 348 0), (.str (.ofString "/claim/cut.py") 1332)]) #[])
noncomputable abbrev o551 (P : Params) : Obj := (.mk (.type "function") none (.func (.mk (.ofString "set_box") (.ofString "ObjectStore.set_box") fa94 (.stmts fb94) fs94 3 [] .none .none .none (.str (.ofString "scheme.objects") 1002) none (.ref 879) .none 0)) #[])
noncomputable abbrev o552 (P : Params) : Obj := (.mk (.type "tuple") none (.seq #[(.str (.ofString "self") 1337), (.str (.ofString "is_done") 1338), (.str (.ofString "value") 1339)] 0) #[])
noncomputable abbrev o553 (P : Params) : Obj := (.mk .none none (.func (.mk (.ofString "promise") (.ofString "ObjectStore.promise") fa95 (.stmts fb95) fs95 0 [] .none .none .none .none none .none .none 0)) #[])
noncomputable abbrev o554 (P : Params) : Obj := (.mk (.type "code") none (.fields #[(.str (.ofString "promise") 1334), (.str (.ofString "ObjectStore.promise") 1335), (.str (.ofString "/claim/cut.py") 1336), (.int 351 0), (.int 3 0), (.int 0 0), (.int 0 0), (.int 3 0), (.ref 881), (.bool true), (.int 181 0), (.ref 882), .none, (.ref 883), (.ref 884), (.ref 885), (.int 1340 0), (.int 351 0), (.str (.ofString "/claim/cut.py") 1341)]) #[])
noncomputable abbrev o555 (P : Params) : Obj := (.mk (.type "function") none (.func (.mk (.ofString "promise") (.ofString "ObjectStore.promise") fa95 (.stmts fb95) fs95 3 [] .none .none .none (.str (.ofString "scheme.objects") 1002) none (.ref 886) .none 0)) #[])
noncomputable abbrev o556 (P : Params) : Obj := (.mk (.type "tuple") none (.seq #[(.str (.ofString "self") 1346), (.str (.ofString "value") 1347)] 0) #[])
noncomputable abbrev o557 (P : Params) : Obj := (.mk .none none (.func (.mk (.ofString "is_promise") (.ofString "ObjectStore.is_promise") fa96 (.stmts fb96) fs58 0 [] .none .none .none .none none .none .none 0)) #[])
noncomputable abbrev o558 (P : Params) : Obj := (.mk (.type "code") none (.fields #[(.str (.ofString "is_promise") 1343), (.str (.ofString "ObjectStore.is_promise") 1344), (.str (.ofString "/claim/cut.py") 1345), (.int 354 0), (.int 2 0), (.int 0 0), (.int 0 0), (.int 3 0), (.ref 888), (.bool true), (.int 181 0), (.ref 889), .none, (.ref 890), (.ref 891), (.ref 892), (.int 1348 0), (.int 354 0), (.str (.ofString "/claim/cut.py") 1349)]) #[])
noncomputable abbrev o559 (P : Params) : Obj := (.mk (.type "function") none (.func (.mk (.ofString "is_promise") (.ofString "ObjectStore.is_promise") fa96 (.stmts fb96) fs58 3 [] .none .none .none (.str (.ofString "scheme.objects") 1002) none (.ref 893) .none 0)) #[])
noncomputable abbrev o560 (P : Params) : Obj := (.mk (.type "tuple") none (.seq #[(.str (.ofString "self") 1354), (.str (.ofString "promise") 1355)] 0) #[])
noncomputable abbrev o561 (P : Params) : Obj := (.mk .none none (.func (.mk (.ofString "promise_is_done") (.ofString "ObjectStore.promise_is_done") fa97 (.stmts fb97) fs97 0 [] .none .none .none .none none .none .none 0)) #[])
noncomputable abbrev o562 (P : Params) : Obj := (.mk (.type "code") none (.fields #[(.str (.ofString "promise_is_done") 1351), (.str (.ofString "ObjectStore.promise_is_done") 1352), (.str (.ofString "/claim/cut.py") 1353), (.int 357 0), (.int 2 0), (.int 0 0), (.int 0 0), (.int 3 0), (.ref 895), (.bool true), (.int 181 0), (.ref 896), .none, (.ref 897), (.ref 898), (.ref 899), (.int 1356 0), (.int 357 0), (.str (.ofString "/claim/cut.py") 1357)]) #[])
noncomputable abbrev o563 (P : Params) : Obj := (.mk (.type "function") none (.func (.mk (.ofString "promise_is_done") (.ofString "ObjectStore.promise_is_done") fa97 (.stmts fb97) fs97 3 [] .none .none .none (.str (.ofString "scheme.objects") 1002) none (.ref 900) .none 0)) #[])
noncomputable abbrev o564 (P : Params) : Obj := (.mk (.type "tuple") none (.seq #[(.str (.ofString "self") 1362), (.str (.ofString "promise") 1363)] 0) #[])
noncomputable abbrev o565 (P : Params) : Obj := (.mk .none none (.func (.mk (.ofString "promise_content") (.ofString "ObjectStore.promise_content") fa98 (.stmts fb98) fs97 0 [] .none .none .none .none none .none .none 0)) #[])
noncomputable abbrev o566 (P : Params) : Obj := (.mk (.type "code") none (.fields #[(.str (.ofString "promise_content") 1359), (.str (.ofString "ObjectStore.promise_content") 1360), (.str (.ofString "/claim/cut.py") 1361), (.int 360 0), (.int 2 0), (.int 0 0), (.int 0 0), (.int 3 0), (.ref 902), (.bool true), (.int 181 0), (.ref 903), .none, (.ref 904), (.ref 905), (.ref 906), (.int 1364 0), (.int 360 0), (.str (.ofString "/claim/cut.py") 1365)]) #[])
noncomputable abbrev o567 (P : Params) : Obj := (.mk (.type "function") none (.func (.mk (.ofString "promise_content") (.ofString "ObjectStore.promise_content") fa98 (.stmts fb98) fs97 3 [] .none .none .none (.str (.ofString "scheme.objects") 1002) none (.ref 907) .none 0)) #[])
noncomputable abbrev o568 (P : Params) : Obj := (.mk (.type "tuple") none (.seq #[(.str (.ofString "self") 1370), (.str (.ofString "promise") 1371), (.str (.ofString "value") 1372)] 0) #[])
noncomputable abbrev o569 (P : Params) : Obj := (.mk .none none (.func (.mk (.ofString "settle") (.ofString "ObjectStore.settle") fa99 (.stmts fb99) fs99 0 [] .none .none .none .none none .none .none 0)) #[])
noncomputable abbrev o570 (P : Params) : Obj := (.mk (.type "code") none (.fields #[(.str (.ofString "settle") 1367), (.str (.ofString "ObjectStore.settle") 1368), (.str (.ofString "/claim/cut.py") 1369), (.int 363 0), (.int 3 0), (.int 0 0), (.int 0 0), (.int 3 0), (.ref 909), (.bool true), (.int 181 0), (.ref 910), .none, (.ref 911), (.ref 912), (.ref 913), (.int 1373 0), (.int 363 0), (.str (.ofString "/claim/cut.py") 1374)]) #[])
noncomputable abbrev o571 (P : Params) : Obj := (.mk (.type "function") none (.func (.mk (.ofString "settle") (.ofString "ObjectStore.settle") fa99 (.stmts fb99) fs99 3 [] .none .none .none (.str (.ofString "scheme.objects") 1002) none (.ref 914) .none 0)) #[])
noncomputable abbrev o572 (P : Params) : Obj := (.mk (.type "tuple") none (.seq #[(.str (.ofString "self") 1379), (.str (.ofString "number") 1380)] 0) #[])
noncomputable abbrev o573 (P : Params) : Obj := (.mk .none none (.func (.mk (.ofString "port") (.ofString "ObjectStore.port") fa100 (.stmts fb100) fs100 0 [] .none .none .none .none none .none .none 0)) #[])
noncomputable abbrev o574 (P : Params) : Obj := (.mk (.type "code") none (.fields #[(.str (.ofString "port") 1376), (.str (.ofString "ObjectStore.port") 1377), (.str (.ofString "/claim/cut.py") 1378), (.int 366 0), (.int 2 0), (.int 0 0), (.int 0 0), (.int 3 0), (.ref 916), (.bool true), (.int 181 0), (.ref 917), .none, (.ref 918), (.ref 919), (.ref 920), (.int 1381 0), (.int 366 0), (.str (.ofString "/claim/cut.py") 1382)]) #[])
noncomputable abbrev o575 (P : Params) : Obj := (.mk (.type "function") none (.func (.mk (.ofString "port") (.ofString "ObjectStore.port") fa100 (.stmts fb100) fs100 3 [] .none .none .none (.str (.ofString "scheme.objects") 1002) none (.ref 921) .none 0)) #[])
noncomputable abbrev o576 (P : Params) : Obj := (.mk (.type "tuple") none (.seq #[(.str (.ofString "self") 1387), (.str (.ofString "value") 1388)] 0) #[])
noncomputable abbrev o577 (P : Params) : Obj := (.mk .none none (.func (.mk (.ofString "is_port") (.ofString "ObjectStore.is_port") fa101 (.stmts fb101) fs101 0 [] .none .none .none .none none .none .none 0)) #[])
noncomputable abbrev o578 (P : Params) : Obj := (.mk (.type "code") none (.fields #[(.str (.ofString "is_port") 1384), (.str (.ofString "ObjectStore.is_port") 1385), (.str (.ofString "/claim/cut.py") 1386), (.int 369 0), (.int 2 0), (.int 0 0), (.int 0 0), (.int 3 0), (.ref 923), (.bool true), (.int 181 0), (.ref 924), .none, (.ref 925), (.ref 926), (.ref 927), (.int 1389 0), (.int 369 0), (.str (.ofString "/claim/cut.py") 1390)]) #[])
noncomputable abbrev o579 (P : Params) : Obj := (.mk (.type "function") none (.func (.mk (.ofString "is_port") (.ofString "ObjectStore.is_port") fa101 (.stmts fb101) fs101 3 [] .none .none .none (.str (.ofString "scheme.objects") 1002) none (.ref 928) .none 0)) #[])
noncomputable abbrev o580 (P : Params) : Obj := (.mk (.type "tuple") none (.seq #[(.str (.ofString "self") 1395), (.str (.ofString "port") 1396)] 0) #[])
noncomputable abbrev o581 (P : Params) : Obj := (.mk .none none (.func (.mk (.ofString "port_number") (.ofString "ObjectStore.port_number") fa102 (.stmts fb102) fs102 0 [] .none .none .none .none none .none .none 0)) #[])
noncomputable abbrev o582 (P : Params) : Obj := (.mk (.type "code") none (.fields #[(.str (.ofString "port_number") 1392), (.str (.ofString "ObjectStore.port_number") 1393), (.str (.ofString "/claim/cut.py") 1394), (.int 372 0), (.int 2 0), (.int 0 0), (.int 0 0), (.int 3 0), (.ref 930), (.bool true), (.int 181 0), (.ref 931), .none, (.ref 932), (.ref 933), (.ref 934), (.int 1397 0), (.int 372 0), (.str (.ofString "/claim/cut.py") 1398)]) #[])
noncomputable abbrev o583 (P : Params) : Obj := (.mk (.type "function") none (.func (.mk (.ofString "port_number") (.ofString "ObjectStore.port_number") fa102 (.stmts fb102) fs102 3 [] .none .none .none (.str (.ofString "scheme.objects") 1002) none (.ref 935) .none 0)) #[])
noncomputable abbrev o584 (P : Params) : Obj := (.mk (.type "tuple") none (.seq #[(.str (.ofString "self") 1403), (.str (.ofString "value") 1404)] 0) #[])
noncomputable abbrev o585 (P : Params) : Obj := (.mk .none none (.func (.mk (.ofString "is_procedure") (.ofString "ObjectStore.is_procedure") fa103 (.stmts fb103) fs58 0 [] .none .none .none .none none .none .none 0)) #[])
noncomputable abbrev o586 (P : Params) : Obj := (.mk (.type "code") none (.fields #[(.str (.ofString "is_procedure") 1400), (.str (.ofString "ObjectStore.is_procedure") 1401), (.str (.ofString "/claim/cut.py") 1402), (.int 375 0), (.int 2 0), (.int 0 0), (.int 0 0), (.int 3 0), (.ref 937), (.bool true), (.int 181 0), (.ref 938), .none, (.ref 939), (.ref 940), (.ref 941), (.int 1405 0), (.int 375 0), (.str (.ofString "/claim/cut.py") 1406)]) #[])
noncomputable abbrev o587 (P : Params) : Obj := (.mk (.type "function") none (.func (.mk (.ofString "is_procedure") (.ofString "ObjectStore.is_procedure") fa103 (.stmts fb103) fs58 3 [] .none .none .none (.str (.ofString "scheme.objects") 1002) none (.ref 942) .none 0)) #[])
noncomputable abbrev o588 (P : Params) : Obj := (.mk (.type "tuple") none (.seq #[(.str (.ofString "self") 1411), (.str (.ofString "one") 1412), (.str (.ofString "other") 1413)] 0) #[])
noncomputable abbrev o589 (P : Params) : Obj := (.mk .none none (.func (.mk (.ofString "same") (.ofString "ObjectStore.same") fa104 (.stmts fb104) fs104 0 [] .none .none .none .none none .none .none 0)) #[])
noncomputable abbrev o590 (P : Params) : Obj := (.mk (.type "code") none (.fields #[(.str (.ofString "same") 1408), (.str (.ofString "ObjectStore.same") 1409), (.str (.ofString "/claim/cut.py") 1410), (.int 378 0), (.int 3 0), (.int 0 0), (.int 0 0), (.int 3 0), (.ref 944), (.bool true), (.int 181 0), (.ref 945), .none, (.ref 946), (.ref 947), (.ref 948), (.int 1414 0), (.int 378 0), (.str (.ofString "/claim/cut.py") 1415)]) #[])
noncomputable abbrev o591 (P : Params) : Obj := (.mk (.type "function") none (.func (.mk (.ofString "same") (.ofString "ObjectStore.same") fa104 (.stmts fb104) fs104 3 [] .none .none .none (.str (.ofString "scheme.objects") 1002) none (.ref 949) .none 0)) #[])
noncomputable abbrev o592 (P : Params) : Obj := (.mk (.type "tuple") none (.seq #[(.str (.ofString "self") 1420), (.str (.ofString "value") 1421)] 0) #[])
noncomputable abbrev o593 (P : Params) : Obj := (.mk .none none (.func (.mk (.ofString "datum") (.ofString "ObjectStore.datum") fa105 (.stmts fb105) fs105 0 [] .none .none .none .none none .none .none 0)) #[])
noncomputable abbrev o594 (P : Params) : Obj := (.mk (.type "code") none (.fields #[(.str (.ofString "datum") 1417), (.str (.ofString "ObjectStore.datum") 1418), (.str (.ofString "/claim/cut.py") 1419), (.int 381 0), (.int 2 0), (.int 0 0), (.int 0 0), (.int 3 0), (.ref 951), (.bool true), (.int 181 0), (.ref 952), .none, (.ref 953), (.ref 954), (.ref 955), (.int 1422 0), (.int 381 0), (.str (.ofString "/claim/cut.py") 1423)]) #[])
noncomputable abbrev o595 (P : Params) : Obj := (.mk (.type "function") none (.func (.mk (.ofString "datum") (.ofString "ObjectStore.datum") fa105 (.stmts fb105) fs105 3 [] .none .none .none (.str (.ofString "scheme.objects") 1002) none (.ref 956) .none 0)) #[])
noncomputable abbrev o596 (P : Params) : Obj := (.mk (.type "tuple") none (.seq #[(.str (.ofString "self") 1428), (.str (.ofString "datum") 1429)] 0) #[])
noncomputable abbrev o597 (P : Params) : Obj := (.mk .none none (.func (.mk (.ofString "from_datum") (.ofString "ObjectStore.from_datum") fa106 (.stmts fb106) fs106 0 [] .none .none .none .none none .none .none 0)) #[])
noncomputable abbrev o598 (P : Params) : Obj := (.mk (.type "code") none (.fields #[(.str (.ofString "from_datum") 1425), (.str (.ofString "ObjectStore.from_datum") 1426), (.str (.ofString "/claim/cut.py") 1427), (.int 384 0), (.int 2 0), (.int 0 0), (.int 0 0), (.int 3 0), (.ref 958), (.bool true), (.int 181 0), (.ref 959), .none, (.ref 960), (.ref 961), (.ref 962), (.int 1430 0), (.int 384 0), (.str (.ofString "/claim/cut.py") 1431)]) #[])
noncomputable abbrev o599 (P : Params) : Obj := (.mk (.type "function") none (.func (.mk (.ofString "from_datum") (.ofString "ObjectStore.from_datum") fa106 (.stmts fb106) fs106 3 [] .none .none .none (.str (.ofString "scheme.objects") 1002) none (.ref 963) .none 0)) #[])
noncomputable abbrev o600 (P : Params) : Obj := (.mk (.type "tuple") none (.seq #[(.str (.ofString "table") 1433)] 0) #[])
noncomputable abbrev o601 (P : Params) : Obj := (.mk (.type "dict") none (.dict #[(.mk (PyData.keyHash P (.ofString "__module__")) (.str (.ofString "__module__") 1011) (.str (.ofString "scheme.objects") 1002)), (.mk (PyData.keyHash P (.ofString "__firstlineno__")) (.str (.ofString "__firstlineno__") 1015) (.int 232 1014)), (.mk (PyData.keyHash P (.ofString "__init__")) (.str (.ofString "__init__") 1023) (.ref 614)), (.mk (PyData.keyHash P (.ofString "boolean")) (.str (.ofString "boolean") 1031) (.ref 621)), (.mk (PyData.keyHash P (.ofString "is_boolean")) (.str (.ofString "is_boolean") 1039) (.ref 628)), (.mk (PyData.keyHash P (.ofString "is_true")) (.str (.ofString "is_true") 1047) (.ref 635)), (.mk (PyData.keyHash P (.ofString "empty")) (.str (.ofString "empty") 1054) (.ref 642)), (.mk (PyData.keyHash P (.ofString "is_empty")) (.str (.ofString "is_empty") 1062) (.ref 649)), (.mk (PyData.keyHash P (.ofString "unspecified")) (.str (.ofString "unspecified") 1069) (.ref 656)), (.mk (PyData.keyHash P (.ofString "unassigned")) (.str (.ofString "unassigned") 1076) (.ref 663)), (.mk (PyData.keyHash P (.ofString "is_unassigned")) (.str (.ofString "is_unassigned") 1084) (.ref 670)), (.mk (PyData.keyHash P (.ofString "eof")) (.str (.ofString "eof") 1091) (.ref 677)), (.mk (PyData.keyHash P (.ofString "is_eof")) (.str (.ofString "is_eof") 1099) (.ref 684)), (.mk (PyData.keyHash P (.ofString "pair")) (.str (.ofString "pair") 1108) (.ref 691)), (.mk (PyData.keyHash P (.ofString "is_pair")) (.str (.ofString "is_pair") 1116) (.ref 698)), (.mk (PyData.keyHash P (.ofString "car")) (.str (.ofString "car") 1124) (.ref 705)), (.mk (PyData.keyHash P (.ofString "cdr")) (.str (.ofString "cdr") 1132) (.ref 712)), (.mk (PyData.keyHash P (.ofString "set_car")) (.str (.ofString "set_car") 1141) (.ref 719)), (.mk (PyData.keyHash P (.ofString "set_cdr")) (.str (.ofString "set_cdr") 1150) (.ref 726)), (.mk (PyData.keyHash P (.ofString "symbol")) (.str (.ofString "symbol") 1158) (.ref 733)), (.mk (PyData.keyHash P (.ofString "is_symbol")) (.str (.ofString "is_symbol") 1166) (.ref 740)), (.mk (PyData.keyHash P (.ofString "symbol_number")) (.str (.ofString "symbol_number") 1174) (.ref 747)), (.mk (PyData.keyHash P (.ofString "char")) (.str (.ofString "char") 1182) (.ref 754)), (.mk (PyData.keyHash P (.ofString "is_char")) (.str (.ofString "is_char") 1190) (.ref 761)), (.mk (PyData.keyHash P (.ofString "char_code")) (.str (.ofString "char_code") 1198) (.ref 768)), (.mk (PyData.keyHash P (.ofString "string")) (.str (.ofString "string") 1206) (.ref 775)), (.mk (PyData.keyHash P (.ofString "is_string")) (.str (.ofString "is_string") 1214) (.ref 782)), (.mk (PyData.keyHash P (.ofString "string_length")) (.str (.ofString "string_length") 1222) (.ref 789)), (.mk (PyData.keyHash P (.ofString "string_code")) (.str (.ofString "string_code") 1231) (.ref 796)), (.mk (PyData.keyHash P (.ofString "set_string_code")) (.str (.ofString "set_string_code") 1241) (.ref 803)), (.mk (PyData.keyHash P (.ofString "vector")) (.str (.ofString "vector") 1249) (.ref 810)), (.mk (PyData.keyHash P (.ofString "is_vector")) (.str (.ofString "is_vector") 1257) (.ref 817)), (.mk (PyData.keyHash P (.ofString "vector_length")) (.str (.ofString "vector_length") 1265) (.ref 824)), (.mk (PyData.keyHash P (.ofString "vector_item")) (.str (.ofString "vector_item") 1274) (.ref 831)), (.mk (PyData.keyHash P (.ofString "set_vector_item")) (.str (.ofString "set_vector_item") 1284) (.ref 838)), (.mk (PyData.keyHash P (.ofString "number")) (.str (.ofString "number") 1292) (.ref 845)), (.mk (PyData.keyHash P (.ofString "is_number")) (.str (.ofString "is_number") 1300) (.ref 852)), (.mk (PyData.keyHash P (.ofString "number_of")) (.str (.ofString "number_of") 1308) (.ref 859)), (.mk (PyData.keyHash P (.ofString "box")) (.str (.ofString "box") 1316) (.ref 866)), (.mk (PyData.keyHash P (.ofString "unbox")) (.str (.ofString "unbox") 1324) (.ref 873)), (.mk (PyData.keyHash P (.ofString "set_box")) (.str (.ofString "set_box") 1333) (.ref 880)), (.mk (PyData.keyHash P (.ofString "promise")) (.str (.ofString "promise") 1342) (.ref 887)), (.mk (PyData.keyHash P (.ofString "is_promise")) (.str (.ofString "is_promise") 1350) (.ref 894)), (.mk (PyData.keyHash P (.ofString "promise_is_done")) (.str (.ofString "promise_is_done") 1358) (.ref 901)), (.mk (PyData.keyHash P (.ofString "promise_content")) (.str (.ofString "promise_content") 1366) (.ref 908)), (.mk (PyData.keyHash P (.ofString "settle")) (.str (.ofString "settle") 1375) (.ref 915)), (.mk (PyData.keyHash P (.ofString "port")) (.str (.ofString "port") 1383) (.ref 922)), (.mk (PyData.keyHash P (.ofString "is_port")) (.str (.ofString "is_port") 1391) (.ref 929)), (.mk (PyData.keyHash P (.ofString "port_number")) (.str (.ofString "port_number") 1399) (.ref 936)), (.mk (PyData.keyHash P (.ofString "is_procedure")) (.str (.ofString "is_procedure") 1407) (.ref 943)), (.mk (PyData.keyHash P (.ofString "same")) (.str (.ofString "same") 1416) (.ref 950)), (.mk (PyData.keyHash P (.ofString "datum")) (.str (.ofString "datum") 1424) (.ref 957)), (.mk (PyData.keyHash P (.ofString "from_datum")) (.str (.ofString "from_datum") 1432) (.ref 964)), (.mk (PyData.keyHash P (.ofString "__static_attributes__")) (.str (.ofString "__static_attributes__") 1434) (.ref 965)), (.mk (PyData.keyHash P (.ofString "__dict__")) (.str (.ofString "__dict__") 1436) (.ref 968)), (.mk (PyData.keyHash P (.ofString "__weakref__")) (.str (.ofString "__weakref__") 1438) (.ref 969)), (.mk (PyData.keyHash P (.ofString "__doc__")) (.str (.ofString "__doc__") 1439) .none)] 4) #[])
noncomputable abbrev o602 (P : Params) : Obj := (.mk (.type "type") none (.cls (.mk (.ofString "ObjectStore") [(.type "object")] [(.ref 967), (.type "object")] 966 (.ofString "ObjectStore") true [] [] false none false)) #[none, none, (some (.str (.ofString "ObjectStore") 1004)), (some (.str (.ofString "ObjectStore") 1012)), (some (.builtin "object.__new__")), (some (.bool true))])
noncomputable abbrev o603 (P : Params) : Obj := (.mk (.type "getset_descriptor") none (.fields #[(.str (.ofString "__dict__") 1435), (.ref 967), (.builtin "function.__dict__"), (.builtin "function.__dict__#set")]) #[])
noncomputable abbrev o604 (P : Params) : Obj := (.mk (.type "getset_descriptor") none (.fields #[(.str (.ofString "__weakref__") 1437), (.ref 967), (.builtin "ExceptionGroup.__weakref__"), .none]) #[])
noncomputable abbrev o605 (P : Params) : Obj := (.mk (.type "super") none (.fields #[(.ref 967), (.ref 967), (.ref 967)]) #[])
noncomputable abbrev o606 (P : Params) : Obj := (.mk (.type "builtin_function_or_method") none (.fields #[(.builtin "object.__init_subclass__"), (.ref 967)]) #[])
noncomputable abbrev o607 (P : Params) : Obj := (.mk (.type "tuple") none (.seq #[(.str (.ofString "a") 1444), (.str (.ofString "b") 1445), (.str (.ofString "a1") 1446), (.str (.ofString "car") 1447), (.str (.ofString "") 1448), (.str (.ofString "cdr") 1449)] 0) #[])
noncomputable abbrev o608 (P : Params) : Obj := (.mk .none none (.func (.mk (.ofString "_law_deck") (.ofString "_law_deck") fa107 (.stmts fb107) fs107 0 [] .none .none .none .none none .none .none 0)) #[])
noncomputable abbrev o609 (P : Params) : Obj := (.mk (.type "code") none (.fields #[(.str (.ofString "_law_deck") 1451), (.str (.ofString "_law_deck") 1452), (.str (.ofString "/claim/cut.py") 1453), (.int 388 0), (.int 1 0), (.int 0 0), (.int 0 0), (.int 3 0), (.ref 973), (.bool true), (.int 181 0), (.ref 974), .none, .none, .none, (.ref 975), (.int 1454 0), (.int 388 0), (.str (.ofString "/claim/cut.py") 1455)]) #[])
noncomputable abbrev o610 (P : Params) : Obj := (.mk (.type "function") none (.func (.mk (.ofString "_law_deck") (.ofString "_law_deck") fa107 (.stmts fb107) fs107 3 [] .none .none .none (.str (.ofString "law_pq1033_01") 1442) none (.ref 976) .none 0)) #[])
noncomputable abbrev o611 (P : Params) : Obj := (.mk (.type "tuple") none (.seq #[(.str (.ofString "deck") 1460), (.str (.ofString "many") 1461), (.str (.ofString "mixed") 1462)] 0) #[])
noncomputable abbrev o612 (P : Params) : Obj := (.mk .none none (.func (.mk (.ofString "_law_draw") (.ofString "_law_draw") fa108 (.stmts fb108) fs108 0 [] .none .none .none .none none .none .none 0)) #[])
noncomputable abbrev o613 (P : Params) : Obj := (.mk (.type "code") none (.fields #[(.str (.ofString "_law_draw") 1457), (.str (.ofString "_law_draw") 1458), (.str (.ofString "/claim/cut.py") 1459), (.int 390 0), (.int 2 0), (.int 0 0), (.int 0 0), (.int 3 0), (.ref 978), (.bool true), (.int 181 0), (.ref 979), .none, (.ref 980), (.ref 981), (.ref 982), (.int 1463 0), (.int 390 0), (.str (.ofString "/claim/cut.py") 1464)]) #[])
noncomputable abbrev o614 (P : Params) : Obj := (.mk (.type "function") none (.func (.mk (.ofString "_law_draw") (.ofString "_law_draw") fa108 (.stmts fb108) fs108 3 [] .none .none .none (.str (.ofString "law_pq1033_01") 1442) none (.ref 983) .none 0)) #[])
noncomputable abbrev o615 (P : Params) : Obj := (.mk .none none (.func (.mk (.ofString "_law_names") (.ofString "_law_names") fa109 (.stmts fb109) fs109 0 [] .none .none .none .none none .none .none 0)) #[])
noncomputable abbrev o616 (P : Params) : Obj := (.mk (.type "code") none (.fields #[(.str (.ofString "_law_names") 1466), (.str (.ofString "_law_names") 1467), (.str (.ofString "/claim/cut.py") 1468), (.int 396 0), (.int 3 0), (.int 0 0), (.int 0 0), (.int 3 0), (.ref 985), (.bool true), (.int 181 0), (.ref 986), .none, .none, .none, (.ref 987), (.int 1469 0), (.int 396 0), (.str (.ofString "/claim/cut.py") 1470)]) #[])
noncomputable abbrev o617 (P : Params) : Obj := (.mk (.type "function") none (.func (.mk (.ofString "_law_names") (.ofString "_law_names") fa109 (.stmts fb109) fs109 3 [] .none .none .none (.str (.ofString "law_pq1033_01") 1442) none (.ref 988) .none 0)) #[])
noncomputable abbrev o618 (P : Params) : Obj := (.mk .none none (.func (.mk (.ofString "_law_written") (.ofString "_law_written") fa110 (.stmts fb110) fs110 0 [] .none .none .none .none none .none .none 0)) #[])
noncomputable abbrev o619 (P : Params) : Obj := (.mk (.type "code") none (.fields #[(.str (.ofString "_law_written") 1472), (.str (.ofString "_law_written") 1473), (.str (.ofString "/claim/cut.py") 1474), (.int 420 0), (.int 4 0), (.int 0 0), (.int 0 0), (.int 3 0), (.ref 990), (.bool true), (.int 181 0), (.ref 991), .none, .none, .none, (.ref 992), (.int 1475 0), (.int 420 0), (.str (.ofString "/claim/cut.py") 1476)]) #[])
noncomputable abbrev o620 (P : Params) : Obj := (.mk (.type "function") none (.func (.mk (.ofString "_law_written") (.ofString "_law_written") fa110 (.stmts fb110) fs110 3 [] .none .none .none (.str (.ofString "law_pq1033_01") 1442) none (.ref 993) .none 0)) #[])
noncomputable abbrev o621 (P : Params) : Obj := (.mk (.type "tuple") none (.seq #[(.str (.ofString "script") 1481), (.str (.ofString "deck") 1482), (.str (.ofString "setting") 1483), (.str (.ofString "store") 1484), (.str (.ofString "state") 1485), (.str (.ofString "turn") 1486)] 0) #[])
noncomputable abbrev o622 (P : Params) : Obj := (.mk .none none (.func (.mk (.ofString "law") (.ofString "law") fa111 (.stmts fb111) fs111 0 [] .none .none .none .none none .none .none 0)) #[])
noncomputable abbrev o623 (P : Params) : Obj := (.mk (.type "code") none (.fields #[(.str (.ofString "law") 1478), (.str (.ofString "law") 1479), (.str (.ofString "/claim/cut.py") 1480), (.int 444 0), (.int 1 0), (.int 0 0), (.int 0 0), (.int 3 0), (.ref 995), (.bool true), (.int 181 0), (.ref 996), .none, (.ref 997), (.ref 998), (.ref 999), (.int 1487 0), (.int 444 0), (.str (.ofString "/claim/cut.py") 1488)]) #[])
noncomputable abbrev o624 (P : Params) : Obj := (.mk (.type "function") none (.func (.mk (.ofString "law") (.ofString "law") fa111 (.stmts fb111) fs111 3 [] .none .none .none (.str (.ofString "law_pq1033_01") 1442) none (.ref 1000) .none 0)) #[])

noncomputable def t0 (P : Params) : BT := (.node (PySem.W.boot_o_0 P) (.node (PySem.W.boot_o_1 P) (.node (PySem.W.boot_o_3 P) (.node (PySem.W.boot_o_7 P) .nil .nil) (.node (PySem.W.boot_o_7 P) .nil .nil)) (.node (PySem.W.boot_o_5 P) (.node (PySem.W.boot_o_9 P) .nil .nil) (.node (Mine.o0 P) .nil .nil))) (.node (PySem.W.boot_o_2 P) (.node (PySem.W.boot_o_4 P) (.node (PySem.W.boot_o_8 P) .nil .nil) (.node (PySem.W.boot_o_8 P) .nil .nil)) (.node (PySem.W.boot_o_6 P) (.node (PySem.W.boot_o_10 P) .nil .nil) (.node (Mine.o1 P) .nil .nil))))
noncomputable def t1 (P : Params) : BT := (.node (PySem.W.boot_o_0 P) (.node (PySem.W.boot_o_1 P) (.node (Mine.o2 P) (.node (PySem.W.boot_o_7 P) (.node (PySem.W.boot_o_7 P) (.node (Mine.o13 P) (.node (Mine.o38 P) (.node (Mine.o78 P) (.node (PySem.W.boot_o_7 P) .nil .nil) .nil) (.node (Mine.o124 P) .nil .nil)) (.node (Mine.o58 P) (.node (Mine.o101 P) (.node (PySem.W.boot_o_7 P) .nil .nil) .nil) (.node (Mine.o147 P) .nil .nil))) (.node (Mine.o28 P) (.node (Mine.o49 P) (.node (PySem.W.boot_o_7 P) (.node (Mine.o174 P) .nil .nil) .nil) (.node (Mine.o134 P) .nil .nil)) (.node (Mine.o68 P) (.node (PySem.W.boot_o_7 P) (.node (Mine.o195 P) .nil .nil) .nil) (.node (PySem.W.boot_o_8 P) .nil .nil)))) (.node (Mine.o8 P) (.node (Mine.o20 P) (.node (Mine.o8 P) (.node (Mine.o84 P) (.node (Mine.o169 P) .nil .nil) .nil) (.node (PySem.W.boot_o_7 P) .nil .nil)) (.node (Mine.o63 P) (.node (Mine.o106 P) (.node (Mine.o189 P) .nil .nil) .nil) (.node (PySem.W.boot_o_7 P) .nil .nil))) (.node (Mine.o33 P) (.node (PySem.W.boot_o_7 P) (.node (Mine.o96 P) (.node (Mine.o179 P) .nil .nil) .nil) (.node (Mine.o142 P) .nil .nil)) (.node (PySem.W.boot_o_7 P) (.node (PySem.W.boot_o_8 P) .nil .nil) (.node (Mine.o160 P) .nil .nil))))) (.node (PySem.W.boot_o_7 P) (.node (Mine.o5 P) (.node (Mine.o16 P) (.node (Mine.o42 P) (.node (Mine.o82 P) (.node (PySem.W.boot_o_7 P) .nil .nil) .nil) (.node (Mine.o128 P) .nil .nil)) (.node (PySem.W.boot_o_8 P) (.node (Mine.o103 P) (.node (Mine.o185 P) .nil .nil) .nil) (.node (PySem.W.boot_o_7 P) .nil .nil))) (.node (Mine.o30 P) (.node (Mine.o52 P) (.node (Mine.o92 P) (.node (Mine.o176 P) .nil .nil) .nil) (.node (Mine.o138 P) .nil .nil)) (.node (PySem.W.boot_o_7 P) (.node (Mine.o115 P) (.node (PySem.W.boot_o_8 P) .nil .nil) .nil) (.node (Mine.o158 P) .nil .nil)))) (.node (Mine.o11 P) (.node (Mine.o24 P) (.node (Mine.o47 P) (.node (Mine.o87 P) (.node (PySem.W.boot_o_8 P) .nil .nil) .nil) (.node (PySem.W.boot_o_7 P) .nil .nil)) (.node (Mine.o65 P) (.node (Mine.o110 P) (.node (Mine.o193 P) .nil .nil) .nil) (.node (Mine.o153 P) .nil .nil))) (.node (PySem.W.boot_o_7 P) (.node (PySem.W.boot_o_7 P) (.node (Mine.o8 P) (.node (PySem.W.boot_o_7 P) .nil .nil) .nil) (.node (Mine.o144 P) .nil .nil)) (.node (Mine.o74 P) (.node (Mine.o120 P) .nil .nil) (.node (Mine.o163 P) .nil .nil)))))) (.node (PySem.W.boot_o_5 P) (.node (PySem.W.boot_o_9 P) (.node (Mine.o4 P) (.node (Mine.o14 P) (.node (Mine.o40 P) (.node (Mine.o80 P) (.node (Mine.o166 P) .nil .nil) .nil) (.node (Mine.o126 P) .nil .nil)) (.node (Mine.o60 P) (.node (PySem.W.boot_o_7 P) (.node (Mine.o184 P) .nil .nil) .nil) (.node (PySem.W.boot_o_8 P) .nil .nil))) (.node (PySem.W.boot_o_7 P) (.node (Mine.o50 P) (.node (Mine.o90 P) (.node (PySem.W.boot_o_7 P) .nil .nil) .nil) (.node (Mine.o136 P) .nil .nil)) (.node (PySem.W.boot_o_8 P) (.node (Mine.o114 P) (.node (Mine.o197 P) .nil .nil) .nil) (.node (PySem.W.boot_o_7 P) .nil .nil)))) (.node (PySem.W.boot_o_7 P) (.node (Mine.o22 P) (.node (PySem.W.boot_o_7 P) (.node (Mine.o85 P) (.node (Mine.o171 P) .nil .nil) .nil) (.node (Mine.o131 P) .nil .nil)) (.node (PySem.W.boot_o_7 P) (.node (Mine.o108 P) (.node (Mine.o191 P) .nil .nil) .nil) (.node (Mine.o152 P) .nil .nil))) (.node (PySem.W.boot_o_8 P) (.node (Mine.o55 P) (.node (Mine.o98 P) (.node (PySem.W.boot_o_8 P) .nil .nil) .nil) (.node (PySem.W.boot_o_7 P) .nil .nil)) (.node (Mine.o73 P) (.node (PySem.W.boot_o_7 P) .nil .nil) (.node (Mine.o161 P) .nil .nil))))) (.node (Mine.o0 P) (.node (Mine.o7 P) (.node (Mine.o18 P) (.node (Mine.o44 P) (.node (PySem.W.boot_o_7 P) (.node (Mine.o168 P) .nil .nil) .nil) (.node (Mine.o8 P) .nil .nil)) (.node (PySem.W.boot_o_7 P) (.node (Mine.o104 P) (.node (Mine.o187 P) .nil .nil) .nil) (.node (Mine.o150 P) .nil .nil))) (.node (Mine.o31 P) (.node (PySem.W.boot_o_8 P) (.node (Mine.o94 P) (.node (Mine.o177 P) .nil .nil) .nil) (.node (Mine.o140 P) .nil .nil)) (.node (Mine.o71 P) (.node (Mine.o117 P) (.node (Mine.o199 P) .nil .nil) .nil) (.node (PySem.W.boot_o_7 P) .nil .nil)))) (.node (PySem.W.boot_o_7 P) (.node (Mine.o26 P) (.node (PySem.W.boot_o_7 P) (.node (PySem.W.boot_o_8 P) (.node (PySem.W.boot_o_7 P) .nil .nil) .nil) (.node (Mine.o133 P) .nil .nil)) (.node (Mine.o66 P) (.node (Mine.o112 P) (.node (PySem.W.boot_o_7 P) .nil .nil) .nil) (.node (Mine.o155 P) .nil .nil))) (.node (Mine.o36 P) (.node (Mine.o57 P) (.node (PySem.W.boot_o_7 P) (.node (Mine.o182 P) .nil .nil) .nil) (.node (Mine.o145 P) .nil .nil)) (.node (Mine.o76 P) (.node (Mine.o122 P) .nil .nil) (.node (PySem.W.boot_o_8 P) .nil .nil))))))) (.node (PySem.W.boot_o_2 P) (.node (PySem.W.boot_o_4 P) (.node (PySem.W.boot_o_8 P) (.node (PySem.W.boot_o_8 P) (.node (PySem.W.boot_o_7 P) (.node (Mine.o39 P) (.node (Mine.o79 P) (.node (Mine.o165 P) .nil .nil) .nil) (.node (Mine.o125 P) .nil .nil)) (.node (Mine.o59 P) (.node (Mine.o102 P) (.node (PySem.W.boot_o_8 P) .nil .nil) .nil) (.node (PySem.W.boot_o_7 P) .nil .nil))) (.node (Mine.o29 P) (.node (PySem.W.boot_o_7 P) (.node (Mine.o89 P) (.node (Mine.o175 P) .nil .nil) .nil) (.node (Mine.o135 P) .nil .nil)) (.node (PySem.W.boot_o_7 P) (.node (Mine.o8 P) (.node (Mine.o196 P) .nil .nil) .nil) (.node (Mine.o156 P) .nil .nil)))) (.node (Mine.o9 P) (.node (Mine.o21 P) (.node (Mine.o45 P) (.node (PySem.W.boot_o_7 P) (.node (Mine.o170 P) .nil .nil) .nil) (.node (Mine.o130 P) .nil .nil)) (.node (Mine.o64 P) (.node (Mine.o107 P) (.node (Mine.o190 P) .nil .nil) .nil) (.node (PySem.W.boot_o_8 P) .nil .nil))) (.node (PySem.W.boot_o_7 P) (.node (Mine.o54 P) (.node (Mine.o97 P) (.node (PySem.W.boot_o_7 P) .nil .nil) .nil) (.node (Mine.o143 P) .nil .nil)) (.node (PySem.W.boot_o_8 P) (.node (Mine.o118 P) .nil .nil) (.node (PySem.W.boot_o_7 P) .nil .nil))))) (.node (Mine.o3 P) (.node (Mine.o6 P) (.node (Mine.o17 P) (.node (Mine.o43 P) (.node (Mine.o83 P) (.node (PySem.W.boot_o_8 P) .nil .nil) .nil) (.node (PySem.W.boot_o_7 P) .nil .nil)) (.node (Mine.o61 P) (.node (PySem.W.boot_o_7 P) (.node (Mine.o186 P) .nil .nil) .nil) (.node (Mine.o149 P) .nil .nil))) (.node (PySem.W.boot_o_7 P) (.node (PySem.W.boot_o_7 P) (.node (Mine.o93 P) (.node (PySem.W.boot_o_7 P) .nil .nil) .nil) (.node (Mine.o139 P) .nil .nil)) (.node (Mine.o70 P) (.node (Mine.o116 P) (.node (Mine.o198 P) .nil .nil) .nil) (.node (Mine.o159 P) .nil .nil)))) (.node (Mine.o12 P) (.node (Mine.o25 P) (.node (Mine.o48 P) (.node (PySem.W.boot_o_7 P) (.node (Mine.o172 P) .nil .nil) .nil) (.node (PySem.W.boot_o_8 P) .nil .nil)) (.node (PySem.W.boot_o_7 P) (.node (Mine.o111 P) (.node (Mine.o194 P) .nil .nil) .nil) (.node (Mine.o154 P) .nil .nil))) (.node (Mine.o35 P) (.node (PySem.W.boot_o_8 P) (.node (Mine.o99 P) (.node (Mine.o181 P) .nil .nil) .nil) (.node (PySem.W.boot_o_7 P) .nil .nil)) (.node (Mine.o75 P) (.node (Mine.o121 P) .nil .nil) (.node (PySem.W.boot_o_7 P) .nil .nil)))))) (.node (PySem.W.boot_o_6 P) (.node (PySem.W.boot_o_10 P) (.node (PySem.W.boot_o_7 P) (.node (Mine.o15 P) (.node (Mine.o41 P) (.node (Mine.o81 P) (.node (Mine.o167 P) .nil .nil) .nil) (.node (Mine.o127 P) .nil .nil)) (.node (PySem.W.boot_o_7 P) (.node (PySem.W.boot_o_8 P) (.node (PySem.W.boot_o_7 P) .nil .nil) .nil) (.node (Mine.o148 P) .nil .nil))) (.node (Mine.o8 P) (.node (Mine.o51 P) (.node (Mine.o91 P) (.node (PySem.W.boot_o_8 P) .nil .nil) .nil) (.node (Mine.o137 P) .nil .nil)) (.node (Mine.o69 P) (.node (PySem.W.boot_o_7 P) (.node (PySem.W.boot_o_7 P) .nil .nil) .nil) (.node (Mine.o157 P) .nil .nil)))) (.node (Mine.o10 P) (.node (Mine.o23 P) (.node (Mine.o46 P) (.node (Mine.o86 P) (.node (PySem.W.boot_o_7 P) .nil .nil) .nil) (.node (Mine.o132 P) .nil .nil)) (.node (PySem.W.boot_o_8 P) (.node (Mine.o109 P) (.node (Mine.o192 P) .nil .nil) .nil) (.node (PySem.W.boot_o_7 P) .nil .nil))) (.node (Mine.o34 P) (.node (Mine.o56 P) (.node (PySem.W.boot_o_7 P) (.node (Mine.o180 P) .nil .nil) .nil) (.node (Mine.o8 P) .nil .nil)) (.node (PySem.W.boot_o_7 P) (.node (Mine.o119 P) .nil .nil) (.node (Mine.o162 P) .nil .nil))))) (.node (Mine.o1 P) (.node (PySem.W.boot_o_7 P) (.node (Mine.o19 P) (.node (PySem.W.boot_o_7 P) (.node (Mine.o8 P) (.node (PySem.W.boot_o_7 P) .nil .nil) .nil) (.node (Mine.o129 P) .nil .nil)) (.node (Mine.o62 P) (.node (Mine.o105 P) (.node (Mine.o188 P) .nil .nil) .nil) (.node (Mine.o151 P) .nil .nil))) (.node (Mine.o32 P) (.node (Mine.o53 P) (.node (Mine.o95 P) (.node (Mine.o178 P) .nil .nil) .nil) (.node (Mine.o141 P) .nil .nil)) (.node (Mine.o72 P) (.node (PySem.W.boot_o_7 P) (.node (Mine.o200 P) .nil .nil) .nil) (.node (PySem.W.boot_o_8 P) .nil .nil)))) (.node (PySem.W.boot_o_8 P) (.node (Mine.o27 P) (.node (PySem.W.boot_o_8 P) (.node (Mine.o88 P) (.node (Mine.o173 P) .nil .nil) .nil) (.node (PySem.W.boot_o_7 P) .nil .nil)) (.node (Mine.o67 P) (.node (Mine.o113 P) (.node (PySem.W.boot_o_8 P) .nil .nil) .nil) (.node (PySem.W.boot_o_7 P) .nil .nil))) (.node (Mine.o37 P) (.node (PySem.W.boot_o_7 P) (.node (Mine.o100 P) (.node (Mine.o183 P) .nil .nil) .nil) (.node (Mine.o146 P) .nil .nil)) (.node (Mine.o77 P) (.node (Mine.o123 P) .nil .nil) (.node (Mine.o164 P) .nil .nil))))))))
noncomputable def t2 (P : Params) : BT := (.node (PySem.W.boot_o_0 P) (.node (PySem.W.boot_o_1 P) (.node (Mine.o202 P) (.node (PySem.W.boot_o_7 P) (.node (PySem.W.boot_o_7 P) (.node (Mine.o13 P) (.node (Mine.o38 P) (.node (Mine.o78 P) (.node (PySem.W.boot_o_7 P) (.node (PySem.W.boot_o_7 P) .nil .nil) .nil) (.node (Mine.o252 P) .nil .nil)) (.node (Mine.o124 P) (.node (PySem.W.boot_o_8 P) (.node (Mine.o8 P) .nil .nil) .nil) (.node (Mine.o295 P) .nil .nil))) (.node (Mine.o58 P) (.node (Mine.o101 P) (.node (PySem.W.boot_o_7 P) (.node (Mine.o352 P) .nil .nil) .nil) (.node (Mine.o273 P) .nil .nil)) (.node (Mine.o147 P) (.node (PySem.W.boot_o_8 P) .nil .nil) (.node (PySem.W.boot_o_7 P) .nil .nil)))) (.node (Mine.o28 P) (.node (Mine.o49 P) (.node (PySem.W.boot_o_7 P) (.node (Mine.o174 P) (.node (Mine.o343 P) .nil .nil) .nil) (.node (PySem.W.boot_o_7 P) .nil .nil)) (.node (Mine.o134 P) (.node (Mine.o222 P) (.node (Mine.o381 P) .nil .nil) .nil) (.node (PySem.W.boot_o_8 P) .nil .nil))) (.node (Mine.o68 P) (.node (PySem.W.boot_o_7 P) (.node (Mine.o195 P) (.node (Mine.o362 P) .nil .nil) .nil) (.node (Mine.o285 P) .nil .nil)) (.node (PySem.W.boot_o_8 P) (.node (PySem.W.boot_o_7 P) .nil .nil) (.node (Mine.o322 P) .nil .nil))))) (.node (Mine.o8 P) (.node (Mine.o20 P) (.node (Mine.o8 P) (.node (Mine.o84 P) (.node (Mine.o169 P) (.node (PySem.W.boot_o_8 P) .nil .nil) .nil) (.node (Mine.o257 P) .nil .nil)) (.node (PySem.W.boot_o_7 P) (.node (Mine.o216 P) (.node (PySem.W.boot_o_8 P) .nil .nil) .nil) (.node (PySem.W.boot_o_7 P) .nil .nil))) (.node (Mine.o63 P) (.node (Mine.o106 P) (.node (Mine.o189 P) (.node (Mine.o357 P) .nil .nil) .nil) (.node (Mine.o280 P) .nil .nil)) (.node (PySem.W.boot_o_7 P) (.node (Mine.o238 P) .nil .nil) (.node (Mine.o317 P) .nil .nil)))) (.node (Mine.o33 P) (.node (PySem.W.boot_o_7 P) (.node (Mine.o96 P) (.node (Mine.o179 P) (.node (PySem.W.boot_o_7 P) .nil .nil) .nil) (.node (PySem.W.boot_o_8 P) .nil .nil)) (.node (Mine.o142 P) (.node (Mine.o227 P) (.node (Mine.o388 P) .nil .nil) .nil) (.node (Mine.o308 P) .nil .nil))) (.node (PySem.W.boot_o_7 P) (.node (PySem.W.boot_o_8 P) (.node (Mine.o205 P) (.node (PySem.W.boot_o_7 P) .nil .nil) .nil) (.node (Mine.o290 P) .nil .nil)) (.node (Mine.o160 P) (.node (Mine.o247 P) .nil .nil) (.node (Mine.o327 P) .nil .nil)))))) (.node (PySem.W.boot_o_7 P) (.node (Mine.o5 P) (.node (Mine.o16 P) (.node (Mine.o42 P) (.node (Mine.o82 P) (.node (PySem.W.boot_o_7 P) (.node (Mine.o336 P) .nil .nil) .nil) (.node (Mine.o254 P) .nil .nil)) (.node (Mine.o128 P) (.node (Mine.o212 P) (.node (Mine.o374 P) .nil .nil) .nil) (.node (PySem.W.boot_o_7 P) .nil .nil))) (.node (PySem.W.boot_o_8 P) (.node (Mine.o103 P) (.node (Mine.o185 P) (.node (PySem.W.boot_o_8 P) .nil .nil) .nil) (.node (Mine.o276 P) .nil .nil)) (.node (PySem.W.boot_o_7 P) (.node (Mine.o236 P) .nil .nil) (.node (PySem.W.boot_o_7 P) .nil .nil)))) (.node (Mine.o30 P) (.node (Mine.o52 P) (.node (Mine.o92 P) (.node (Mine.o176 P) (.node (Mine.o346 P) .nil .nil) .nil) (.node (Mine.o266 P) .nil .nil)) (.node (Mine.o138 P) (.node (PySem.W.boot_o_8 P) (.node (Mine.o384 P) .nil .nil) .nil) (.node (Mine.o306 P) .nil .nil))) (.node (PySem.W.boot_o_7 P) (.node (Mine.o115 P) (.node (PySem.W.boot_o_8 P) (.node (PySem.W.boot_o_7 P) .nil .nil) .nil) (.node (PySem.W.boot_o_8 P) .nil .nil)) (.node (Mine.o158 P) (.node (PySem.W.boot_o_7 P) .nil .nil) (.node (Mine.o324 P) .nil .nil))))) (.node (Mine.o11 P) (.node (Mine.o24 P) (.node (Mine.o47 P) (.node (Mine.o87 P) (.node (PySem.W.boot_o_8 P) (.node (Mine.o341 P) .nil .nil) .nil) (.node (Mine.o261 P) .nil .nil)) (.node (PySem.W.boot_o_7 P) (.node (Mine.o220 P) (.node (Mine.o379 P) .nil .nil) .nil) (.node (Mine.o301 P) .nil .nil))) (.node (Mine.o65 P) (.node (Mine.o110 P) (.node (Mine.o193 P) (.node (Mine.o359 P) .nil .nil) .nil) (.node (PySem.W.boot_o_7 P) .nil .nil)) (.node (Mine.o153 P) (.node (Mine.o241 P) .nil .nil) (.node (PySem.W.boot_o_8 P) .nil .nil)))) (.node (PySem.W.boot_o_7 P) (.node (PySem.W.boot_o_7 P) (.node (Mine.o8 P) (.node (PySem.W.boot_o_7 P) (.node (PySem.W.boot_o_7 P) .nil .nil) .nil) (.node (Mine.o271 P) .nil .nil)) (.node (Mine.o144 P) (.node (Mine.o231 P) .nil .nil) (.node (Mine.o311 P) .nil .nil))) (.node (Mine.o74 P) (.node (Mine.o120 P) (.node (Mine.o207 P) (.node (Mine.o368 P) .nil .nil) .nil) (.node (Mine.o292 P) .nil .nil)) (.node (Mine.o163 P) (.node (PySem.W.boot_o_8 P) .nil .nil) (.node (Mine.o331 P) .nil .nil))))))) (.node (PySem.W.boot_o_5 P) (.node (PySem.W.boot_o_9 P) (.node (Mine.o4 P) (.node (Mine.o14 P) (.node (Mine.o40 P) (.node (Mine.o80 P) (.node (Mine.o166 P) (.node (Mine.o335 P) .nil .nil) .nil) (.node (PySem.W.boot_o_7 P) .nil .nil)) (.node (Mine.o126 P) (.node (PySem.W.boot_o_7 P) (.node (PySem.W.boot_o_7 P) .nil .nil) .nil) (.node (PySem.W.boot_o_8 P) .nil .nil))) (.node (Mine.o60 P) (.node (PySem.W.boot_o_7 P) (.node (Mine.o184 P) (.node (Mine.o354 P) .nil .nil) .nil) (.node (Mine.o274 P) .nil .nil)) (.node (PySem.W.boot_o_8 P) (.node (PySem.W.boot_o_7 P) .nil .nil) (.node (Mine.o314 P) .nil .nil)))) (.node (PySem.W.boot_o_7 P) (.node (Mine.o50 P) (.node (Mine.o90 P) (.node (PySem.W.boot_o_7 P) (.node (Mine.o344 P) .nil .nil) .nil) (.node (Mine.o265 P) .nil .nil)) (.node (Mine.o136 P) (.node (Mine.o224 P) (.node (Mine.o382 P) .nil .nil) .nil) (.node (PySem.W.boot_o_7 P) .nil .nil))) (.node (PySem.W.boot_o_8 P) (.node (Mine.o114 P) (.node (Mine.o197 P) (.node (PySem.W.boot_o_8 P) .nil .nil) .nil) (.node (Mine.o287 P) .nil .nil)) (.node (PySem.W.boot_o_7 P) (.node (Mine.o244 P) .nil .nil) (.node (PySem.W.boot_o_7 P) .nil .nil))))) (.node (PySem.W.boot_o_7 P) (.node (Mine.o22 P) (.node (PySem.W.boot_o_7 P) (.node (Mine.o85 P) (.node (Mine.o171 P) (.node (PySem.W.boot_o_7 P) .nil .nil) .nil) (.node (Mine.o259 P) .nil .nil)) (.node (Mine.o131 P) (.node (Mine.o218 P) (.node (PySem.W.boot_o_7 P) .nil .nil) .nil) (.node (Mine.o300 P) .nil .nil))) (.node (PySem.W.boot_o_7 P) (.node (Mine.o108 P) (.node (Mine.o191 P) (.node (PySem.W.boot_o_7 P) .nil .nil) .nil) (.node (Mine.o282 P) .nil .nil)) (.node (Mine.o152 P) (.node (Mine.o239 P) .nil .nil) (.node (Mine.o319 P) .nil .nil)))) (.node (PySem.W.boot_o_8 P) (.node (Mine.o55 P) (.node (Mine.o98 P) (.node (PySem.W.boot_o_8 P) (.node (Mine.o349 P) .nil .nil) .nil) (.node (PySem.W.boot_o_7 P) .nil .nil)) (.node (PySem.W.boot_o_7 P) (.node (Mine.o229 P) .nil .nil) (.node (Mine.o309 P) .nil .nil))) (.node (Mine.o73 P) (.node (PySem.W.boot_o_7 P) (.node (Mine.o206 P) (.node (Mine.o367 P) .nil .nil) .nil) (.node (PySem.W.boot_o_7 P) .nil .nil)) (.node (Mine.o161 P) (.node (Mine.o249 P) .nil .nil) (.node (Mine.o329 P) .nil .nil)))))) (.node (Mine.o0 P) (.node (Mine.o7 P) (.node (Mine.o18 P) (.node (Mine.o44 P) (.node (PySem.W.boot_o_7 P) (.node (Mine.o168 P) (.node (Mine.o338 P) .nil .nil) .nil) (.node (Mine.o255 P) .nil .nil)) (.node (Mine.o8 P) (.node (Mine.o214 P) (.node (Mine.o376 P) .nil .nil) .nil) (.node (Mine.o298 P) .nil .nil))) (.node (PySem.W.boot_o_7 P) (.node (Mine.o104 P) (.node (Mine.o187 P) (.node (PySem.W.boot_o_7 P) .nil .nil) .nil) (.node (Mine.o278 P) .nil .nil)) (.node (Mine.o150 P) (.node (PySem.W.boot_o_7 P) .nil .nil) (.node (Mine.o316 P) .nil .nil)))) (.node (Mine.o31 P) (.node (PySem.W.boot_o_8 P) (.node (Mine.o94 P) (.node (Mine.o177 P) (.node (PySem.W.boot_o_8 P) .nil .nil) .nil) (.node (Mine.o268 P) .nil .nil)) (.node (Mine.o140 P) (.node (PySem.W.boot_o_7 P) (.node (Mine.o386 P) .nil .nil) .nil) (.node (PySem.W.boot_o_7 P) .nil .nil))) (.node (Mine.o71 P) (.node (Mine.o117 P) (.node (Mine.o199 P) (.node (Mine.o365 P) .nil .nil) .nil) (.node (PySem.W.boot_o_7 P) .nil .nil)) (.node (PySem.W.boot_o_7 P) (.node (Mine.o246 P) .nil .nil) (.node (Mine.o325 P) .nil .nil))))) (.node (PySem.W.boot_o_7 P) (.node (Mine.o26 P) (.node (PySem.W.boot_o_7 P) (.node (PySem.W.boot_o_8 P) (.node (PySem.W.boot_o_7 P) (.node (PySem.W.boot_o_7 P) .nil .nil) .nil) (.node (Mine.o263 P) .nil .nil)) (.node (Mine.o133 P) (.node (Mine.o221 P) (.node (PySem.W.boot_o_7 P) .nil .nil) .nil) (.node (Mine.o303 P) .nil .nil))) (.node (Mine.o66 P) (.node (Mine.o112 P) (.node (PySem.W.boot_o_7 P) (.node (Mine.o360 P) .nil .nil) .nil) (.node (Mine.o284 P) .nil .nil)) (.node (Mine.o155 P) (.node (Mine.o8 P) .nil .nil) (.node (PySem.W.boot_o_7 P) .nil .nil)))) (.node (Mine.o36 P) (.node (Mine.o57 P) (.node (PySem.W.boot_o_7 P) (.node (Mine.o182 P) (.node (Mine.o351 P) .nil .nil) .nil) (.node (PySem.W.boot_o_7 P) .nil .nil)) (.node (Mine.o145 P) (.node (Mine.o233 P) .nil .nil) (.node (PySem.W.boot_o_8 P) .nil .nil))) (.node (Mine.o76 P) (.node (Mine.o122 P) (.node (Mine.o209 P) (.node (Mine.o370 P) .nil .nil) .nil) (.node (Mine.o293 P) .nil .nil)) (.node (PySem.W.boot_o_8 P) (.node (PySem.W.boot_o_7 P) .nil .nil) (.node (Mine.o333 P) .nil .nil)))))))) (.node (Mine.o201 P) (.node (PySem.W.boot_o_4 P) (.node (PySem.W.boot_o_8 P) (.node (PySem.W.boot_o_8 P) (.node (PySem.W.boot_o_7 P) (.node (Mine.o39 P) (.node (Mine.o79 P) (.node (Mine.o165 P) (.node (PySem.W.boot_o_8 P) .nil .nil) .nil) (.node (Mine.o253 P) .nil .nil)) (.node (Mine.o125 P) (.node (Mine.o210 P) (.node (Mine.o372 P) .nil .nil) .nil) (.node (PySem.W.boot_o_7 P) .nil .nil))) (.node (Mine.o59 P) (.node (Mine.o102 P) (.node (PySem.W.boot_o_8 P) (.node (Mine.o353 P) .nil .nil) .nil) (.node (PySem.W.boot_o_7 P) .nil .nil)) (.node (PySem.W.boot_o_7 P) (.node (Mine.o234 P) .nil .nil) (.node (Mine.o313 P) .nil .nil)))) (.node (Mine.o29 P) (.node (PySem.W.boot_o_7 P) (.node (Mine.o89 P) (.node (Mine.o175 P) (.node (PySem.W.boot_o_7 P) .nil .nil) .nil) (.node (Mine.o8 P) .nil .nil)) (.node (Mine.o135 P) (.node (Mine.o223 P) (.node (PySem.W.boot_o_7 P) .nil .nil) .nil) (.node (Mine.o304 P) .nil .nil))) (.node (PySem.W.boot_o_7 P) (.node (Mine.o8 P) (.node (Mine.o196 P) (.node (PySem.W.boot_o_7 P) .nil .nil) .nil) (.node (Mine.o286 P) .nil .nil)) (.node (Mine.o156 P) (.node (Mine.o243 P) .nil .nil) (.node (Mine.o323 P) .nil .nil))))) (.node (Mine.o9 P) (.node (Mine.o21 P) (.node (Mine.o45 P) (.node (PySem.W.boot_o_7 P) (.node (Mine.o170 P) (.node (Mine.o339 P) .nil .nil) .nil) (.node (Mine.o258 P) .nil .nil)) (.node (Mine.o130 P) (.node (Mine.o217 P) (.node (Mine.o377 P) .nil .nil) .nil) (.node (PySem.W.boot_o_8 P) .nil .nil))) (.node (Mine.o64 P) (.node (Mine.o107 P) (.node (Mine.o204 P) (.node (Mine.o358 P) .nil .nil) .nil) (.node (Mine.o281 P) .nil .nil)) (.node (PySem.W.boot_o_8 P) (.node (PySem.W.boot_o_7 P) .nil .nil) (.node (Mine.o318 P) .nil .nil)))) (.node (PySem.W.boot_o_7 P) (.node (Mine.o54 P) (.node (Mine.o97 P) (.node (PySem.W.boot_o_7 P) (.node (Mine.o348 P) .nil .nil) .nil) (.node (Mine.o269 P) .nil .nil)) (.node (Mine.o143 P) (.node (Mine.o228 P) (.node (Mine.o389 P) .nil .nil) .nil) (.node (PySem.W.boot_o_7 P) .nil .nil))) (.node (PySem.W.boot_o_8 P) (.node (Mine.o118 P) (.node (Mine.o8 P) (.node (PySem.W.boot_o_8 P) .nil .nil) .nil) (.node (Mine.o291 P) .nil .nil)) (.node (PySem.W.boot_o_7 P) (.node (Mine.o248 P) .nil .nil) (.node (Mine.o328 P) .nil .nil)))))) (.node (Mine.o203 P) (.node (Mine.o6 P) (.node (Mine.o17 P) (.node (Mine.o43 P) (.node (Mine.o83 P) (.node (PySem.W.boot_o_8 P) (.node (Mine.o337 P) .nil .nil) .nil) (.node (PySem.W.boot_o_7 P) .nil .nil)) (.node (PySem.W.boot_o_7 P) (.node (Mine.o213 P) (.node (Mine.o375 P) .nil .nil) .nil) (.node (Mine.o297 P) .nil .nil))) (.node (Mine.o61 P) (.node (PySem.W.boot_o_7 P) (.node (Mine.o186 P) (.node (Mine.o355 P) .nil .nil) .nil) (.node (Mine.o277 P) .nil .nil)) (.node (Mine.o149 P) (.node (Mine.o237 P) .nil .nil) (.node (PySem.W.boot_o_8 P) .nil .nil)))) (.node (PySem.W.boot_o_7 P) (.node (PySem.W.boot_o_7 P) (.node (Mine.o93 P) (.node (PySem.W.boot_o_7 P) (.node (PySem.W.boot_o_7 P) .nil .nil) .nil) (.node (Mine.o267 P) .nil .nil)) (.node (Mine.o139 P) (.node (Mine.o225 P) (.node (Mine.o385 P) .nil .nil) .nil) (.node (Mine.o307 P) .nil .nil))) (.node (Mine.o70 P) (.node (Mine.o116 P) (.node (Mine.o198 P) (.node (Mine.o364 P) .nil .nil) .nil) (.node (Mine.o288 P) .nil .nil)) (.node (Mine.o159 P) (.node (PySem.W.boot_o_8 P) .nil .nil) (.node (PySem.W.boot_o_7 P) .nil .nil))))) (.node (Mine.o12 P) (.node (Mine.o25 P) (.node (Mine.o48 P) (.node (PySem.W.boot_o_7 P) (.node (Mine.o172 P) (.node (Mine.o342 P) .nil .nil) .nil) (.node (Mine.o262 P) .nil .nil)) (.node (PySem.W.boot_o_8 P) (.node (Mine.o8 P) (.node (Mine.o380 P) .nil .nil) .nil) (.node (Mine.o302 P) .nil .nil))) (.node (PySem.W.boot_o_7 P) (.node (Mine.o111 P) (.node (Mine.o194 P) (.node (PySem.W.boot_o_7 P) .nil .nil) .nil) (.node (Mine.o8 P) .nil .nil)) (.node (Mine.o154 P) (.node (PySem.W.boot_o_7 P) .nil .nil) (.node (Mine.o320 P) .nil .nil)))) (.node (Mine.o35 P) (.node (PySem.W.boot_o_8 P) (.node (Mine.o99 P) (.node (Mine.o181 P) (.node (PySem.W.boot_o_8 P) .nil .nil) .nil) (.node (Mine.o272 P) .nil .nil)) (.node (PySem.W.boot_o_7 P) (.node (Mine.o232 P) .nil .nil) (.node (PySem.W.boot_o_7 P) .nil .nil))) (.node (Mine.o75 P) (.node (Mine.o121 P) (.node (Mine.o208 P) (.node (Mine.o369 P) .nil .nil) .nil) (.node (PySem.W.boot_o_7 P) .nil .nil)) (.node (PySem.W.boot_o_7 P) (.node (Mine.o250 P) .nil .nil) (.node (Mine.o332 P) .nil .nil))))))) (.node (PySem.W.boot_o_6 P) (.node (PySem.W.boot_o_10 P) (.node (PySem.W.boot_o_7 P) (.node (Mine.o15 P) (.node (Mine.o41 P) (.node (Mine.o81 P) (.node (Mine.o167 P) (.node (PySem.W.boot_o_7 P) .nil .nil) .nil) (.node (PySem.W.boot_o_8 P) .nil .nil)) (.node (Mine.o127 P) (.node (Mine.o211 P) (.node (Mine.o373 P) .nil .nil) .nil) (.node (Mine.o296 P) .nil .nil))) (.node (PySem.W.boot_o_7 P) (.node (PySem.W.boot_o_8 P) (.node (PySem.W.boot_o_7 P) (.node (PySem.W.boot_o_7 P) .nil .nil) .nil) (.node (Mine.o275 P) .nil .nil)) (.node (Mine.o148 P) (.node (Mine.o235 P) .nil .nil) (.node (Mine.o315 P) .nil .nil)))) (.node (Mine.o8 P) (.node (Mine.o51 P) (.node (Mine.o91 P) (.node (PySem.W.boot_o_8 P) (.node (Mine.o345 P) .nil .nil) .nil) (.node (PySem.W.boot_o_7 P) .nil .nil)) (.node (Mine.o137 P) (.node (PySem.W.boot_o_7 P) (.node (Mine.o383 P) .nil .nil) .nil) (.node (Mine.o305 P) .nil .nil))) (.node (Mine.o69 P) (.node (PySem.W.boot_o_7 P) (.node (PySem.W.boot_o_7 P) (.node (Mine.o363 P) .nil .nil) .nil) (.node (PySem.W.boot_o_7 P) .nil .nil)) (.node (Mine.o157 P) (.node (Mine.o245 P) .nil .nil) (.node (PySem.W.boot_o_8 P) .nil .nil))))) (.node (Mine.o10 P) (.node (Mine.o23 P) (.node (Mine.o46 P) (.node (Mine.o86 P) (.node (PySem.W.boot_o_7 P) (.node (Mine.o340 P) .nil .nil) .nil) (.node (Mine.o260 P) .nil .nil)) (.node (Mine.o132 P) (.node (Mine.o219 P) (.node (Mine.o378 P) .nil .nil) .nil) (.node (PySem.W.boot_o_7 P) .nil .nil))) (.node (PySem.W.boot_o_8 P) (.node (Mine.o109 P) (.node (Mine.o192 P) (.node (PySem.W.boot_o_8 P) .nil .nil) .nil) (.node (Mine.o283 P) .nil .nil)) (.node (PySem.W.boot_o_7 P) (.node (Mine.o240 P) .nil .nil) (.node (PySem.W.boot_o_7 P) .nil .nil)))) (.node (Mine.o34 P) (.node (Mine.o56 P) (.node (PySem.W.boot_o_7 P) (.node (Mine.o180 P) (.node (Mine.o350 P) .nil .nil) .nil) (.node (Mine.o270 P) .nil .nil)) (.node (Mine.o8 P) (.node (Mine.o230 P) .nil .nil) (.node (Mine.o310 P) .nil .nil))) (.node (PySem.W.boot_o_7 P) (.node (Mine.o119 P) (.node (PySem.W.boot_o_7 P) (.node (PySem.W.boot_o_7 P) .nil .nil) .nil) (.node (PySem.W.boot_o_8 P) .nil .nil)) (.node (Mine.o162 P) (.node (PySem.W.boot_o_7 P) .nil .nil) (.node (Mine.o330 P) .nil .nil)))))) (.node (Mine.o1 P) (.node (PySem.W.boot_o_7 P) (.node (Mine.o19 P) (.node (PySem.W.boot_o_7 P) (.node (Mine.o8 P) (.node (PySem.W.boot_o_7 P) (.node (PySem.W.boot_o_7 P) .nil .nil) .nil) (.node (Mine.o256 P) .nil .nil)) (.node (Mine.o129 P) (.node (Mine.o215 P) (.node (PySem.W.boot_o_7 P) .nil .nil) .nil) (.node (Mine.o299 P) .nil .nil))) (.node (Mine.o62 P) (.node (Mine.o105 P) (.node (Mine.o188 P) (.node (Mine.o356 P) .nil .nil) .nil) (.node (Mine.o279 P) .nil .nil)) (.node (Mine.o151 P) (.node (PySem.W.boot_o_8 P) .nil .nil) (.node (PySem.W.boot_o_7 P) .nil .nil)))) (.node (Mine.o32 P) (.node (Mine.o53 P) (.node (Mine.o95 P) (.node (Mine.o178 P) (.node (Mine.o347 P) .nil .nil) .nil) (.node (PySem.W.boot_o_7 P) .nil .nil)) (.node (Mine.o141 P) (.node (Mine.o226 P) (.node (Mine.o387 P) .nil .nil) .nil) (.node (PySem.W.boot_o_8 P) .nil .nil))) (.node (Mine.o72 P) (.node (PySem.W.boot_o_7 P) (.node (Mine.o200 P) (.node (Mine.o366 P) .nil .nil) .nil) (.node (Mine.o289 P) .nil .nil)) (.node (PySem.W.boot_o_8 P) (.node (PySem.W.boot_o_7 P) .nil .nil) (.node (Mine.o326 P) .nil .nil))))) (.node (PySem.W.boot_o_8 P) (.node (Mine.o27 P) (.node (PySem.W.boot_o_8 P) (.node (Mine.o88 P) (.node (Mine.o173 P) (.node (PySem.W.boot_o_8 P) .nil .nil) .nil) (.node (Mine.o264 P) .nil .nil)) (.node (PySem.W.boot_o_7 P) (.node (PySem.W.boot_o_7 P) (.node (PySem.W.boot_o_8 P) .nil .nil) .nil) (.node (PySem.W.boot_o_7 P) .nil .nil))) (.node (Mine.o67 P) (.node (Mine.o113 P) (.node (PySem.W.boot_o_8 P) (.node (Mine.o361 P) .nil .nil) .nil) (.node (PySem.W.boot_o_7 P) .nil .nil)) (.node (PySem.W.boot_o_7 P) (.node (Mine.o242 P) .nil .nil) (.node (Mine.o321 P) .nil .nil)))) (.node (Mine.o37 P) (.node (PySem.W.boot_o_7 P) (.node (Mine.o100 P) (.node (Mine.o183 P) (.node (PySem.W.boot_o_7 P) .nil .nil) .nil) (.node (PySem.W.boot_o_8 P) .nil .nil)) (.node (Mine.o146 P) (.node (PySem.W.boot_o_7 P) .nil .nil) (.node (Mine.o312 P) .nil .nil))) (.node (Mine.o77 P) (.node (Mine.o123 P) (.node (PySem.W.boot_o_7 P) (.node (Mine.o371 P) .nil .nil) .nil) (.node (Mine.o294 P) .nil .nil)) (.node (Mine.o164 P) (.node (Mine.o251 P) .nil .nil) (.node (Mine.o334 P) .nil .nil)))))))))
noncomputable def t3 (P : Params) : BT := (.node (PySem.W.boot_o_0 P) (.node (PySem.W.boot_o_1 P) (.node (Mine.o390 P) (.node (PySem.W.boot_o_7 P) (.node (PySem.W.boot_o_7 P) (.node (Mine.o13 P) (.node (Mine.o38 P) (.node (Mine.o78 P) (.node (PySem.W.boot_o_7 P) (.node (PySem.W.boot_o_7 P) .nil .nil) (.node (Mine.o486 P) .nil .nil)) (.node (Mine.o252 P) (.node (PySem.W.boot_o_7 P) .nil .nil) (.node (PySem.W.boot_o_7 P) .nil .nil))) (.node (Mine.o124 P) (.node (PySem.W.boot_o_8 P) (.node (Mine.o8 P) .nil .nil) (.node (Mine.o523 P) .nil .nil)) (.node (Mine.o295 P) (.node (Mine.o449 P) .nil .nil) (.node (PySem.W.boot_o_8 P) .nil .nil)))) (.node (Mine.o58 P) (.node (Mine.o101 P) (.node (PySem.W.boot_o_7 P) (.node (Mine.o352 P) .nil .nil) (.node (Mine.o504 P) .nil .nil)) (.node (Mine.o273 P) (.node (PySem.W.boot_o_7 P) .nil .nil) (.node (Mine.o577 P) .nil .nil))) (.node (Mine.o147 P) (.node (PySem.W.boot_o_8 P) (.node (Mine.o395 P) .nil .nil) (.node (PySem.W.boot_o_7 P) .nil .nil)) (.node (PySem.W.boot_o_7 P) (.node (PySem.W.boot_o_8 P) .nil .nil) (.node (PySem.W.boot_o_8 P) .nil .nil))))) (.node (Mine.o28 P) (.node (Mine.o49 P) (.node (PySem.W.boot_o_7 P) (.node (Mine.o174 P) (.node (Mine.o343 P) .nil .nil) (.node (PySem.W.boot_o_7 P) .nil .nil)) (.node (PySem.W.boot_o_7 P) (.node (Mine.o422 P) .nil .nil) (.node (Mine.o568 P) .nil .nil))) (.node (Mine.o134 P) (.node (Mine.o222 P) (.node (Mine.o381 P) .nil .nil) (.node (PySem.W.boot_o_8 P) .nil .nil)) (.node (PySem.W.boot_o_8 P) (.node (Mine.o459 P) .nil .nil) (.node (Mine.o608 P) .nil .nil)))) (.node (Mine.o68 P) (.node (PySem.W.boot_o_7 P) (.node (Mine.o195 P) (.node (Mine.o362 P) .nil .nil) (.node (Mine.o513 P) .nil .nil)) (.node (Mine.o285 P) (.node (Mine.o440 P) .nil .nil) (.node (Mine.o587 P) .nil .nil))) (.node (PySem.W.boot_o_8 P) (.node (PySem.W.boot_o_7 P) (.node (PySem.W.boot_o_8 P) .nil .nil) (.node (Mine.o550 P) .nil .nil)) (.node (Mine.o322 P) (.node (PySem.W.boot_o_7 P) .nil .nil) .nil))))) (.node (Mine.o8 P) (.node (Mine.o20 P) (.node (Mine.o8 P) (.node (Mine.o84 P) (.node (Mine.o169 P) (.node (PySem.W.boot_o_8 P) .nil .nil) (.node (Mine.o491 P) .nil .nil)) (.node (Mine.o257 P) (.node (Mine.o417 P) .nil .nil) (.node (PySem.W.boot_o_8 P) .nil .nil))) (.node (PySem.W.boot_o_7 P) (.node (Mine.o216 P) (.node (PySem.W.boot_o_8 P) .nil .nil) (.node (PySem.W.boot_o_7 P) .nil .nil)) (.node (PySem.W.boot_o_7 P) (.node (Mine.o454 P) .nil .nil) (.node (Mine.o602 P) .nil .nil)))) (.node (Mine.o63 P) (.node (Mine.o106 P) (.node (Mine.o189 P) (.node (Mine.o357 P) .nil .nil) (.node (PySem.W.boot_o_7 P) .nil .nil)) (.node (Mine.o280 P) (.node (PySem.W.boot_o_8 P) .nil .nil) (.node (Mine.o582 P) .nil .nil))) (.node (PySem.W.boot_o_7 P) (.node (Mine.o238 P) (.node (PySem.W.boot_o_7 P) .nil .nil) (.node (Mine.o545 P) .nil .nil)) (.node (Mine.o317 P) (.node (Mine.o472 P) .nil .nil) (.node (Mine.o622 P) .nil .nil))))) (.node (Mine.o33 P) (.node (PySem.W.boot_o_7 P) (.node (Mine.o96 P) (.node (Mine.o179 P) (.node (PySem.W.boot_o_7 P) .nil .nil) (.node (PySem.W.boot_o_8 P) .nil .nil)) (.node (PySem.W.boot_o_8 P) (.node (Mine.o427 P) .nil .nil) (.node (PySem.W.boot_o_7 P) .nil .nil))) (.node (Mine.o142 P) (.node (Mine.o227 P) (.node (Mine.o388 P) .nil .nil) (.node (Mine.o536 P) .nil .nil)) (.node (Mine.o308 P) (.node (PySem.W.boot_o_7 P) .nil .nil) (.node (Mine.o613 P) .nil .nil)))) (.node (PySem.W.boot_o_7 P) (.node (PySem.W.boot_o_8 P) (.node (Mine.o205 P) (.node (PySem.W.boot_o_7 P) .nil .nil) (.node (Mine.o518 P) .nil .nil)) (.node (Mine.o290 P) (.node (PySem.W.boot_o_7 P) .nil .nil) (.node (PySem.W.boot_o_7 P) .nil .nil))) (.node (Mine.o160 P) (.node (Mine.o247 P) (.node (Mine.o408 P) .nil .nil) (.node (Mine.o555 P) .nil .nil)) (.node (Mine.o327 P) (.node (Mine.o481 P) .nil .nil) .nil)))))) (.node (PySem.W.boot_o_7 P) (.node (Mine.o5 P) (.node (Mine.o16 P) (.node (Mine.o42 P) (.node (Mine.o82 P) (.node (PySem.W.boot_o_7 P) (.node (Mine.o336 P) .nil .nil) (.node (Mine.o488 P) .nil .nil)) (.node (Mine.o254 P) (.node (PySem.W.boot_o_7 P) .nil .nil) (.node (Mine.o561 P) .nil .nil))) (.node (Mine.o128 P) (.node (Mine.o212 P) (.node (Mine.o374 P) .nil .nil) (.node (PySem.W.boot_o_7 P) .nil .nil)) (.node (PySem.W.boot_o_7 P) (.node (PySem.W.boot_o_8 P) .nil .nil) (.node (Mine.o598 P) .nil .nil)))) (.node (PySem.W.boot_o_8 P) (.node (Mine.o103 P) (.node (Mine.o185 P) (.node (PySem.W.boot_o_8 P) .nil .nil) (.node (Mine.o507 P) .nil .nil)) (.node (Mine.o276 P) (.node (Mine.o433 P) .nil .nil) (.node (PySem.W.boot_o_8 P) .nil .nil))) (.node (PySem.W.boot_o_7 P) (.node (Mine.o236 P) (.node (PySem.W.boot_o_7 P) .nil .nil) (.node (PySem.W.boot_o_7 P) .nil .nil)) (.node (PySem.W.boot_o_7 P) (.node (Mine.o470 P) .nil .nil) (.node (PySem.W.boot_o_7 P) .nil .nil))))) (.node (Mine.o30 P) (.node (Mine.o52 P) (.node (Mine.o92 P) (.node (Mine.o176 P) (.node (Mine.o346 P) .nil .nil) (.node (Mine.o497 P) .nil .nil)) (.node (Mine.o266 P) (.node (Mine.o424 P) .nil .nil) (.node (Mine.o571 P) .nil .nil))) (.node (Mine.o138 P) (.node (PySem.W.boot_o_8 P) (.node (Mine.o384 P) .nil .nil) (.node (Mine.o534 P) .nil .nil)) (.node (Mine.o306 P) (.node (PySem.W.boot_o_7 P) .nil .nil) (.node (PySem.W.boot_o_8 P) .nil .nil)))) (.node (PySem.W.boot_o_7 P) (.node (Mine.o115 P) (.node (PySem.W.boot_o_8 P) (.node (PySem.W.boot_o_7 P) .nil .nil) (.node (PySem.W.boot_o_8 P) .nil .nil)) (.node (PySem.W.boot_o_8 P) (.node (Mine.o443 P) .nil .nil) (.node (PySem.W.boot_o_7 P) .nil .nil))) (.node (Mine.o158 P) (.node (PySem.W.boot_o_7 P) (.node (Mine.o406 P) .nil .nil) (.node (Mine.o552 P) .nil .nil)) (.node (Mine.o324 P) (.node (PySem.W.boot_o_7 P) .nil .nil) .nil))))) (.node (Mine.o11 P) (.node (Mine.o24 P) (.node (Mine.o47 P) (.node (Mine.o87 P) (.node (PySem.W.boot_o_8 P) (.node (Mine.o341 P) .nil .nil) (.node (PySem.W.boot_o_7 P) .nil .nil)) (.node (Mine.o261 P) (.node (PySem.W.boot_o_8 P) .nil .nil) (.node (Mine.o566 P) .nil .nil))) (.node (PySem.W.boot_o_7 P) (.node (Mine.o220 P) (.node (Mine.o379 P) .nil .nil) (.node (Mine.o529 P) .nil .nil)) (.node (Mine.o301 P) (.node (Mine.o456 P) .nil .nil) (.node (Mine.o606 P) .nil .nil)))) (.node (Mine.o65 P) (.node (Mine.o110 P) (.node (Mine.o193 P) (.node (Mine.o359 P) .nil .nil) (.node (PySem.W.boot_o_7 P) .nil .nil)) (.node (PySem.W.boot_o_7 P) (.node (Mine.o438 P) .nil .nil) (.node (Mine.o584 P) .nil .nil))) (.node (Mine.o153 P) (.node (Mine.o241 P) (.node (Mine.o401 P) .nil .nil) (.node (PySem.W.boot_o_8 P) .nil .nil)) (.node (PySem.W.boot_o_8 P) (.node (Mine.o475 P) .nil .nil) .nil)))) (.node (PySem.W.boot_o_7 P) (.node (PySem.W.boot_o_7 P) (.node (Mine.o8 P) (.node (PySem.W.boot_o_7 P) (.node (PySem.W.boot_o_7 P) .nil .nil) (.node (Mine.o502 P) .nil .nil)) (.node (Mine.o271 P) (.node (PySem.W.boot_o_7 P) .nil .nil) (.node (PySem.W.boot_o_7 P) .nil .nil))) (.node (Mine.o144 P) (.node (Mine.o231 P) (.node (Mine.o392 P) .nil .nil) (.node (Mine.o539 P) .nil .nil)) (.node (Mine.o311 P) (.node (Mine.o465 P) .nil .nil) (.node (Mine.o615 P) .nil .nil)))) (.node (Mine.o74 P) (.node (Mine.o120 P) (.node (Mine.o207 P) (.node (Mine.o368 P) .nil .nil) (.node (Mine.o520 P) .nil .nil)) (.node (Mine.o292 P) (.node (PySem.W.boot_o_7 P) .nil .nil) (.node (Mine.o593 P) .nil .nil))) (.node (Mine.o163 P) (.node (PySem.W.boot_o_8 P) (.node (Mine.o411 P) .nil .nil) (.node (PySem.W.boot_o_7 P) .nil .nil)) (.node (Mine.o331 P) (.node (PySem.W.boot_o_8 P) .nil .nil) .nil))))))) (.node (PySem.W.boot_o_5 P) (.node (PySem.W.boot_o_9 P) (.node (Mine.o4 P) (.node (Mine.o14 P) (.node (Mine.o40 P) (.node (Mine.o80 P) (.node (Mine.o166 P) (.node (Mine.o335 P) .nil .nil) (.node (PySem.W.boot_o_7 P) .nil .nil)) (.node (PySem.W.boot_o_7 P) (.node (Mine.o414 P) .nil .nil) (.node (Mine.o560 P) .nil .nil))) (.node (Mine.o126 P) (.node (PySem.W.boot_o_7 P) (.node (PySem.W.boot_o_7 P) .nil .nil) (.node (PySem.W.boot_o_8 P) .nil .nil)) (.node (PySem.W.boot_o_8 P) (.node (Mine.o451 P) .nil .nil) (.node (PySem.W.boot_o_7 P) .nil .nil)))) (.node (Mine.o60 P) (.node (PySem.W.boot_o_7 P) (.node (Mine.o184 P) (.node (Mine.o354 P) .nil .nil) (.node (Mine.o505 P) .nil .nil)) (.node (Mine.o274 P) (.node (Mine.o432 P) .nil .nil) (.node (Mine.o579 P) .nil .nil))) (.node (PySem.W.boot_o_8 P) (.node (PySem.W.boot_o_7 P) (.node (PySem.W.boot_o_8 P) .nil .nil) (.node (Mine.o542 P) .nil .nil)) (.node (Mine.o314 P) (.node (PySem.W.boot_o_7 P) .nil .nil) (.node (Mine.o619 P) .nil .nil))))) (.node (PySem.W.boot_o_7 P) (.node (Mine.o50 P) (.node (Mine.o90 P) (.node (PySem.W.boot_o_7 P) (.node (Mine.o344 P) .nil .nil) (.node (Mine.o496 P) .nil .nil)) (.node (Mine.o265 P) (.node (PySem.W.boot_o_7 P) .nil .nil) (.node (Mine.o569 P) .nil .nil))) (.node (Mine.o136 P) (.node (Mine.o224 P) (.node (Mine.o382 P) .nil .nil) (.node (PySem.W.boot_o_7 P) .nil .nil)) (.node (PySem.W.boot_o_7 P) (.node (PySem.W.boot_o_8 P) .nil .nil) (.node (Mine.o610 P) .nil .nil)))) (.node (PySem.W.boot_o_8 P) (.node (Mine.o114 P) (.node (Mine.o197 P) (.node (PySem.W.boot_o_8 P) .nil .nil) (.node (Mine.o515 P) .nil .nil)) (.node (Mine.o287 P) (.node (Mine.o441 P) .nil .nil) (.node (PySem.W.boot_o_8 P) .nil .nil))) (.node (PySem.W.boot_o_7 P) (.node (Mine.o244 P) (.node (PySem.W.boot_o_7 P) .nil .nil) (.node (PySem.W.boot_o_7 P) .nil .nil)) (.node (PySem.W.boot_o_7 P) (.node (Mine.o478 P) .nil .nil) .nil))))) (.node (PySem.W.boot_o_7 P) (.node (Mine.o22 P) (.node (PySem.W.boot_o_7 P) (.node (Mine.o85 P) (.node (Mine.o171 P) (.node (PySem.W.boot_o_7 P) .nil .nil) (.node (PySem.W.boot_o_8 P) .nil .nil)) (.node (Mine.o259 P) (.node (Mine.o419 P) .nil .nil) (.node (PySem.W.boot_o_7 P) .nil .nil))) (.node (Mine.o131 P) (.node (Mine.o218 P) (.node (PySem.W.boot_o_7 P) .nil .nil) (.node (Mine.o528 P) .nil .nil)) (.node (Mine.o300 P) (.node (PySem.W.boot_o_7 P) .nil .nil) (.node (Mine.o604 P) .nil .nil)))) (.node (PySem.W.boot_o_7 P) (.node (Mine.o108 P) (.node (Mine.o191 P) (.node (PySem.W.boot_o_7 P) .nil .nil) (.node (Mine.o510 P) .nil .nil)) (.node (Mine.o282 P) (.node (PySem.W.boot_o_7 P) .nil .nil) (.node (PySem.W.boot_o_7 P) .nil .nil))) (.node (Mine.o152 P) (.node (Mine.o239 P) (.node (Mine.o400 P) .nil .nil) (.node (Mine.o547 P) .nil .nil)) (.node (Mine.o319 P) (.node (Mine.o473 P) .nil .nil) (.node (Mine.o624 P) .nil .nil))))) (.node (PySem.W.boot_o_8 P) (.node (Mine.o55 P) (.node (Mine.o98 P) (.node (PySem.W.boot_o_8 P) (.node (Mine.o349 P) .nil .nil) (.node (PySem.W.boot_o_7 P) .nil .nil)) (.node (PySem.W.boot_o_7 P) (.node (PySem.W.boot_o_8 P) .nil .nil) (.node (Mine.o574 P) .nil .nil))) (.node (PySem.W.boot_o_7 P) (.node (Mine.o229 P) (.node (PySem.W.boot_o_7 P) .nil .nil) (.node (Mine.o537 P) .nil .nil)) (.node (Mine.o309 P) (.node (Mine.o464 P) .nil .nil) (.node (PySem.W.boot_o_7 P) .nil .nil)))) (.node (Mine.o73 P) (.node (PySem.W.boot_o_7 P) (.node (Mine.o206 P) (.node (Mine.o367 P) .nil .nil) (.node (PySem.W.boot_o_7 P) .nil .nil)) (.node (PySem.W.boot_o_7 P) (.node (Mine.o446 P) .nil .nil) (.node (Mine.o592 P) .nil .nil))) (.node (Mine.o161 P) (.node (Mine.o249 P) (.node (Mine.o409 P) .nil .nil) (.node (PySem.W.boot_o_8 P) .nil .nil)) (.node (Mine.o329 P) (.node (Mine.o483 P) .nil .nil) .nil)))))) (.node (Mine.o0 P) (.node (Mine.o7 P) (.node (Mine.o18 P) (.node (Mine.o44 P) (.node (PySem.W.boot_o_7 P) (.node (Mine.o168 P) (.node (Mine.o338 P) .nil .nil) (.node (Mine.o489 P) .nil .nil)) (.node (Mine.o255 P) (.node (Mine.o416 P) .nil .nil) (.node (Mine.o563 P) .nil .nil))) (.node (Mine.o8 P) (.node (Mine.o214 P) (.node (Mine.o376 P) .nil .nil) (.node (Mine.o526 P) .nil .nil)) (.node (Mine.o298 P) (.node (PySem.W.boot_o_7 P) .nil .nil) (.node (Mine.o600 P) .nil .nil)))) (.node (PySem.W.boot_o_7 P) (.node (Mine.o104 P) (.node (Mine.o187 P) (.node (PySem.W.boot_o_7 P) .nil .nil) (.node (PySem.W.boot_o_8 P) .nil .nil)) (.node (Mine.o278 P) (.node (Mine.o435 P) .nil .nil) (.node (PySem.W.boot_o_7 P) .nil .nil))) (.node (Mine.o150 P) (.node (PySem.W.boot_o_7 P) (.node (Mine.o398 P) .nil .nil) (.node (Mine.o544 P) .nil .nil)) (.node (Mine.o316 P) (.node (PySem.W.boot_o_7 P) .nil .nil) (.node (Mine.o621 P) .nil .nil))))) (.node (Mine.o31 P) (.node (PySem.W.boot_o_8 P) (.node (Mine.o94 P) (.node (Mine.o177 P) (.node (PySem.W.boot_o_8 P) .nil .nil) (.node (Mine.o499 P) .nil .nil)) (.node (Mine.o268 P) (.node (Mine.o425 P) .nil .nil) (.node (PySem.W.boot_o_8 P) .nil .nil))) (.node (Mine.o140 P) (.node (PySem.W.boot_o_7 P) (.node (Mine.o386 P) .nil .nil) (.node (PySem.W.boot_o_7 P) .nil .nil)) (.node (PySem.W.boot_o_7 P) (.node (Mine.o462 P) .nil .nil) (.node (PySem.W.boot_o_7 P) .nil .nil)))) (.node (Mine.o71 P) (.node (Mine.o117 P) (.node (Mine.o199 P) (.node (Mine.o365 P) .nil .nil) (.node (PySem.W.boot_o_7 P) .nil .nil)) (.node (PySem.W.boot_o_7 P) (.node (PySem.W.boot_o_8 P) .nil .nil) (.node (Mine.o590 P) .nil .nil))) (.node (PySem.W.boot_o_7 P) (.node (Mine.o246 P) (.node (PySem.W.boot_o_7 P) .nil .nil) (.node (Mine.o553 P) .nil .nil)) (.node (Mine.o325 P) (.node (Mine.o480 P) .nil .nil) .nil))))) (.node (PySem.W.boot_o_7 P) (.node (Mine.o26 P) (.node (PySem.W.boot_o_7 P) (.node (PySem.W.boot_o_8 P) (.node (PySem.W.boot_o_7 P) (.node (PySem.W.boot_o_7 P) .nil .nil) (.node (Mine.o494 P) .nil .nil)) (.node (Mine.o263 P) (.node (PySem.W.boot_o_7 P) .nil .nil) (.node (PySem.W.boot_o_7 P) .nil .nil))) (.node (Mine.o133 P) (.node (Mine.o221 P) (.node (PySem.W.boot_o_7 P) .nil .nil) (.node (Mine.o531 P) .nil .nil)) (.node (Mine.o303 P) (.node (Mine.o457 P) .nil .nil) (.node (PySem.W.boot_o_7 P) .nil .nil)))) (.node (Mine.o66 P) (.node (Mine.o112 P) (.node (PySem.W.boot_o_7 P) (.node (Mine.o360 P) .nil .nil) (.node (Mine.o512 P) .nil .nil)) (.node (Mine.o284 P) (.node (PySem.W.boot_o_7 P) .nil .nil) (.node (Mine.o585 P) .nil .nil))) (.node (Mine.o155 P) (.node (Mine.o8 P) (.node (Mine.o403 P) .nil .nil) (.node (PySem.W.boot_o_7 P) .nil .nil)) (.node (PySem.W.boot_o_7 P) (.node (PySem.W.boot_o_8 P) .nil .nil) .nil)))) (.node (Mine.o36 P) (.node (Mine.o57 P) (.node (PySem.W.boot_o_7 P) (.node (Mine.o182 P) (.node (Mine.o351 P) .nil .nil) (.node (PySem.W.boot_o_7 P) .nil .nil)) (.node (PySem.W.boot_o_7 P) (.node (Mine.o430 P) .nil .nil) (.node (Mine.o576 P) .nil .nil))) (.node (Mine.o145 P) (.node (Mine.o233 P) (.node (Mine.o393 P) .nil .nil) (.node (PySem.W.boot_o_8 P) .nil .nil)) (.node (PySem.W.boot_o_8 P) (.node (Mine.o467 P) .nil .nil) (.node (Mine.o617 P) .nil .nil)))) (.node (Mine.o76 P) (.node (Mine.o122 P) (.node (Mine.o209 P) (.node (Mine.o370 P) .nil .nil) (.node (Mine.o521 P) .nil .nil)) (.node (Mine.o293 P) (.node (Mine.o448 P) .nil .nil) (.node (Mine.o595 P) .nil .nil))) (.node (PySem.W.boot_o_8 P) (.node (PySem.W.boot_o_7 P) (.node (PySem.W.boot_o_8 P) .nil .nil) (.node (Mine.o558 P) .nil .nil)) (.node (Mine.o333 P) (.node (PySem.W.boot_o_7 P) .nil .nil) .nil)))))))) (.node (Mine.o201 P) (.node (PySem.W.boot_o_4 P) (.node (PySem.W.boot_o_8 P) (.node (PySem.W.boot_o_8 P) (.node (PySem.W.boot_o_7 P) (.node (Mine.o39 P) (.node (Mine.o79 P) (.node (Mine.o165 P) (.node (PySem.W.boot_o_8 P) .nil .nil) (.node (Mine.o487 P) .nil .nil)) (.node (Mine.o253 P) (.node (Mine.o413 P) .nil .nil) (.node (PySem.W.boot_o_8 P) .nil .nil))) (.node (Mine.o125 P) (.node (Mine.o210 P) (.node (Mine.o372 P) .nil .nil) (.node (PySem.W.boot_o_7 P) .nil .nil)) (.node (PySem.W.boot_o_7 P) (.node (Mine.o450 P) .nil .nil) (.node (Mine.o596 P) .nil .nil)))) (.node (Mine.o59 P) (.node (Mine.o102 P) (.node (PySem.W.boot_o_8 P) (.node (Mine.o353 P) .nil .nil) (.node (PySem.W.boot_o_7 P) .nil .nil)) (.node (PySem.W.boot_o_7 P) (.node (PySem.W.boot_o_8 P) .nil .nil) (.node (Mine.o578 P) .nil .nil))) (.node (PySem.W.boot_o_7 P) (.node (Mine.o234 P) (.node (PySem.W.boot_o_7 P) .nil .nil) (.node (Mine.o541 P) .nil .nil)) (.node (Mine.o313 P) (.node (Mine.o468 P) .nil .nil) (.node (Mine.o618 P) .nil .nil))))) (.node (Mine.o29 P) (.node (PySem.W.boot_o_7 P) (.node (Mine.o89 P) (.node (Mine.o175 P) (.node (PySem.W.boot_o_7 P) .nil .nil) (.node (PySem.W.boot_o_8 P) .nil .nil)) (.node (Mine.o8 P) (.node (Mine.o423 P) .nil .nil) (.node (PySem.W.boot_o_7 P) .nil .nil))) (.node (Mine.o135 P) (.node (Mine.o223 P) (.node (PySem.W.boot_o_7 P) .nil .nil) (.node (Mine.o532 P) .nil .nil)) (.node (Mine.o304 P) (.node (PySem.W.boot_o_7 P) .nil .nil) (.node (Mine.o609 P) .nil .nil)))) (.node (PySem.W.boot_o_7 P) (.node (Mine.o8 P) (.node (Mine.o196 P) (.node (PySem.W.boot_o_7 P) .nil .nil) (.node (Mine.o514 P) .nil .nil)) (.node (Mine.o286 P) (.node (PySem.W.boot_o_7 P) .nil .nil) (.node (PySem.W.boot_o_7 P) .nil .nil))) (.node (Mine.o156 P) (.node (Mine.o243 P) (.node (Mine.o404 P) .nil .nil) (.node (Mine.o551 P) .nil .nil)) (.node (Mine.o323 P) (.node (Mine.o477 P) .nil .nil) .nil))))) (.node (Mine.o9 P) (.node (Mine.o21 P) (.node (Mine.o45 P) (.node (PySem.W.boot_o_7 P) (.node (Mine.o170 P) (.node (Mine.o339 P) .nil .nil) (.node (PySem.W.boot_o_7 P) .nil .nil)) (.node (Mine.o258 P) (.node (Mine.o418 P) .nil .nil) (.node (Mine.o564 P) .nil .nil))) (.node (Mine.o130 P) (.node (Mine.o217 P) (.node (Mine.o377 P) .nil .nil) (.node (PySem.W.boot_o_8 P) .nil .nil)) (.node (PySem.W.boot_o_8 P) (.node (Mine.o455 P) .nil .nil) (.node (Mine.o603 P) .nil .nil)))) (.node (Mine.o64 P) (.node (Mine.o107 P) (.node (Mine.o204 P) (.node (Mine.o358 P) .nil .nil) (.node (Mine.o509 P) .nil .nil)) (.node (Mine.o281 P) (.node (Mine.o436 P) .nil .nil) (.node (Mine.o583 P) .nil .nil))) (.node (PySem.W.boot_o_8 P) (.node (PySem.W.boot_o_7 P) (.node (PySem.W.boot_o_8 P) .nil .nil) (.node (Mine.o546 P) .nil .nil)) (.node (Mine.o318 P) (.node (PySem.W.boot_o_7 P) .nil .nil) (.node (Mine.o623 P) .nil .nil))))) (.node (PySem.W.boot_o_7 P) (.node (Mine.o54 P) (.node (Mine.o97 P) (.node (PySem.W.boot_o_7 P) (.node (Mine.o348 P) .nil .nil) (.node (Mine.o500 P) .nil .nil)) (.node (Mine.o269 P) (.node (PySem.W.boot_o_7 P) .nil .nil) (.node (Mine.o573 P) .nil .nil))) (.node (Mine.o143 P) (.node (Mine.o228 P) (.node (Mine.o389 P) .nil .nil) (.node (PySem.W.boot_o_7 P) .nil .nil)) (.node (PySem.W.boot_o_7 P) (.node (PySem.W.boot_o_8 P) .nil .nil) (.node (Mine.o614 P) .nil .nil)))) (.node (PySem.W.boot_o_8 P) (.node (Mine.o118 P) (.node (Mine.o8 P) (.node (PySem.W.boot_o_8 P) .nil .nil) (.node (Mine.o519 P) .nil .nil)) (.node (Mine.o291 P) (.node (Mine.o445 P) .nil .nil) (.node (PySem.W.boot_o_8 P) .nil .nil))) (.node (PySem.W.boot_o_7 P) (.node (Mine.o248 P) (.node (PySem.W.boot_o_7 P) .nil .nil) (.node (PySem.W.boot_o_7 P) .nil .nil)) (.node (Mine.o328 P) (.node (Mine.o482 P) .nil .nil) .nil)))))) (.node (Mine.o391 P) (.node (Mine.o6 P) (.node (Mine.o17 P) (.node (Mine.o43 P) (.node (Mine.o83 P) (.node (PySem.W.boot_o_8 P) (.node (Mine.o337 P) .nil .nil) (.node (PySem.W.boot_o_7 P) .nil .nil)) (.node (PySem.W.boot_o_7 P) (.node (PySem.W.boot_o_8 P) .nil .nil) (.node (Mine.o562 P) .nil .nil))) (.node (PySem.W.boot_o_7 P) (.node (Mine.o213 P) (.node (Mine.o375 P) .nil .nil) (.node (Mine.o525 P) .nil .nil)) (.node (Mine.o297 P) (.node (Mine.o452 P) .nil .nil) (.node (Mine.o599 P) .nil .nil)))) (.node (Mine.o61 P) (.node (PySem.W.boot_o_7 P) (.node (Mine.o186 P) (.node (Mine.o355 P) .nil .nil) (.node (PySem.W.boot_o_7 P) .nil .nil)) (.node (Mine.o277 P) (.node (Mine.o434 P) .nil .nil) (.node (Mine.o580 P) .nil .nil))) (.node (Mine.o149 P) (.node (Mine.o237 P) (.node (Mine.o397 P) .nil .nil) (.node (PySem.W.boot_o_8 P) .nil .nil)) (.node (PySem.W.boot_o_8 P) (.node (Mine.o471 P) .nil .nil) (.node (PySem.W.boot_o_8 P) .nil .nil))))) (.node (PySem.W.boot_o_7 P) (.node (PySem.W.boot_o_7 P) (.node (Mine.o93 P) (.node (PySem.W.boot_o_7 P) (.node (PySem.W.boot_o_7 P) .nil .nil) (.node (Mine.o498 P) .nil .nil)) (.node (Mine.o267 P) (.node (PySem.W.boot_o_7 P) .nil .nil) (.node (PySem.W.boot_o_7 P) .nil .nil))) (.node (Mine.o139 P) (.node (Mine.o225 P) (.node (Mine.o385 P) .nil .nil) (.node (Mine.o535 P) .nil .nil)) (.node (Mine.o307 P) (.node (Mine.o461 P) .nil .nil) (.node (Mine.o611 P) .nil .nil)))) (.node (Mine.o70 P) (.node (Mine.o116 P) (.node (Mine.o198 P) (.node (Mine.o364 P) .nil .nil) (.node (Mine.o516 P) .nil .nil)) (.node (Mine.o288 P) (.node (PySem.W.boot_o_7 P) .nil .nil) (.node (Mine.o589 P) .nil .nil))) (.node (Mine.o159 P) (.node (PySem.W.boot_o_8 P) (.node (Mine.o407 P) .nil .nil) (.node (PySem.W.boot_o_7 P) .nil .nil)) (.node (PySem.W.boot_o_7 P) (.node (PySem.W.boot_o_8 P) .nil .nil) .nil))))) (.node (Mine.o12 P) (.node (Mine.o25 P) (.node (Mine.o48 P) (.node (PySem.W.boot_o_7 P) (.node (Mine.o172 P) (.node (Mine.o342 P) .nil .nil) (.node (Mine.o493 P) .nil .nil)) (.node (Mine.o262 P) (.node (Mine.o420 P) .nil .nil) (.node (Mine.o567 P) .nil .nil))) (.node (PySem.W.boot_o_8 P) (.node (Mine.o8 P) (.node (Mine.o380 P) .nil .nil) (.node (Mine.o530 P) .nil .nil)) (.node (Mine.o302 P) (.node (PySem.W.boot_o_7 P) .nil .nil) (.node (Mine.o607 P) .nil .nil)))) (.node (PySem.W.boot_o_7 P) (.node (Mine.o111 P) (.node (Mine.o194 P) (.node (PySem.W.boot_o_7 P) .nil .nil) (.node (PySem.W.boot_o_8 P) .nil .nil)) (.node (Mine.o8 P) (.node (Mine.o439 P) .nil .nil) (.node (PySem.W.boot_o_7 P) .nil .nil))) (.node (Mine.o154 P) (.node (PySem.W.boot_o_7 P) (.node (Mine.o402 P) .nil .nil) (.node (Mine.o548 P) .nil .nil)) (.node (Mine.o320 P) (.node (PySem.W.boot_o_7 P) .nil .nil) .nil)))) (.node (Mine.o35 P) (.node (PySem.W.boot_o_8 P) (.node (Mine.o99 P) (.node (Mine.o181 P) (.node (PySem.W.boot_o_8 P) .nil .nil) (.node (Mine.o503 P) .nil .nil)) (.node (Mine.o272 P) (.node (Mine.o429 P) .nil .nil) (.node (PySem.W.boot_o_8 P) .nil .nil))) (.node (PySem.W.boot_o_7 P) (.node (Mine.o232 P) (.node (PySem.W.boot_o_7 P) .nil .nil) (.node (PySem.W.boot_o_7 P) .nil .nil)) (.node (PySem.W.boot_o_7 P) (.node (Mine.o466 P) .nil .nil) (.node (Mine.o616 P) .nil .nil)))) (.node (Mine.o75 P) (.node (Mine.o121 P) (.node (Mine.o208 P) (.node (Mine.o369 P) .nil .nil) (.node (PySem.W.boot_o_7 P) .nil .nil)) (.node (PySem.W.boot_o_7 P) (.node (PySem.W.boot_o_8 P) .nil .nil) (.node (Mine.o594 P) .nil .nil))) (.node (PySem.W.boot_o_7 P) (.node (Mine.o250 P) (.node (PySem.W.boot_o_7 P) .nil .nil) (.node (Mine.o557 P) .nil .nil)) (.node (Mine.o332 P) (.node (Mine.o484 P) .nil .nil) .nil))))))) (.node (PySem.W.boot_o_6 P) (.node (PySem.W.boot_o_10 P) (.node (PySem.W.boot_o_7 P) (.node (Mine.o15 P) (.node (Mine.o41 P) (.node (Mine.o81 P) (.node (Mine.o167 P) (.node (PySem.W.boot_o_7 P) .nil .nil) (.node (PySem.W.boot_o_8 P) .nil .nil)) (.node (PySem.W.boot_o_8 P) (.node (Mine.o415 P) .nil .nil) (.node (PySem.W.boot_o_7 P) .nil .nil))) (.node (Mine.o127 P) (.node (Mine.o211 P) (.node (Mine.o373 P) .nil .nil) (.node (Mine.o524 P) .nil .nil)) (.node (Mine.o296 P) (.node (PySem.W.boot_o_7 P) .nil .nil) (.node (Mine.o597 P) .nil .nil)))) (.node (PySem.W.boot_o_7 P) (.node (PySem.W.boot_o_8 P) (.node (PySem.W.boot_o_7 P) (.node (PySem.W.boot_o_7 P) .nil .nil) (.node (Mine.o506 P) .nil .nil)) (.node (Mine.o275 P) (.node (PySem.W.boot_o_7 P) .nil .nil) (.node (PySem.W.boot_o_7 P) .nil .nil))) (.node (Mine.o148 P) (.node (Mine.o235 P) (.node (Mine.o396 P) .nil .nil) (.node (Mine.o543 P) .nil .nil)) (.node (Mine.o315 P) (.node (Mine.o469 P) .nil .nil) (.node (Mine.o620 P) .nil .nil))))) (.node (Mine.o8 P) (.node (Mine.o51 P) (.node (Mine.o91 P) (.node (PySem.W.boot_o_8 P) (.node (Mine.o345 P) .nil .nil) (.node (PySem.W.boot_o_7 P) .nil .nil)) (.node (PySem.W.boot_o_7 P) (.node (PySem.W.boot_o_8 P) .nil .nil) (.node (Mine.o570 P) .nil .nil))) (.node (Mine.o137 P) (.node (PySem.W.boot_o_7 P) (.node (Mine.o383 P) .nil .nil) (.node (Mine.o533 P) .nil .nil)) (.node (Mine.o305 P) (.node (Mine.o460 P) .nil .nil) (.node (PySem.W.boot_o_7 P) .nil .nil)))) (.node (Mine.o69 P) (.node (PySem.W.boot_o_7 P) (.node (PySem.W.boot_o_7 P) (.node (Mine.o363 P) .nil .nil) (.node (PySem.W.boot_o_7 P) .nil .nil)) (.node (PySem.W.boot_o_7 P) (.node (Mine.o442 P) .nil .nil) (.node (Mine.o588 P) .nil .nil))) (.node (Mine.o157 P) (.node (Mine.o245 P) (.node (Mine.o405 P) .nil .nil) (.node (PySem.W.boot_o_8 P) .nil .nil)) (.node (PySem.W.boot_o_8 P) (.node (Mine.o479 P) .nil .nil) .nil))))) (.node (Mine.o10 P) (.node (Mine.o23 P) (.node (Mine.o46 P) (.node (Mine.o86 P) (.node (PySem.W.boot_o_7 P) (.node (Mine.o340 P) .nil .nil) (.node (Mine.o492 P) .nil .nil)) (.node (Mine.o260 P) (.node (PySem.W.boot_o_7 P) .nil .nil) (.node (Mine.o565 P) .nil .nil))) (.node (Mine.o132 P) (.node (Mine.o219 P) (.node (Mine.o378 P) .nil .nil) (.node (PySem.W.boot_o_7 P) .nil .nil)) (.node (PySem.W.boot_o_7 P) (.node (PySem.W.boot_o_8 P) .nil .nil) (.node (Mine.o605 P) .nil .nil)))) (.node (PySem.W.boot_o_8 P) (.node (Mine.o109 P) (.node (Mine.o192 P) (.node (PySem.W.boot_o_8 P) .nil .nil) (.node (Mine.o511 P) .nil .nil)) (.node (Mine.o283 P) (.node (Mine.o437 P) .nil .nil) (.node (PySem.W.boot_o_8 P) .nil .nil))) (.node (PySem.W.boot_o_7 P) (.node (Mine.o240 P) (.node (PySem.W.boot_o_7 P) .nil .nil) (.node (PySem.W.boot_o_7 P) .nil .nil)) (.node (PySem.W.boot_o_7 P) (.node (Mine.o474 P) .nil .nil) .nil)))) (.node (Mine.o34 P) (.node (Mine.o56 P) (.node (PySem.W.boot_o_7 P) (.node (Mine.o180 P) (.node (Mine.o350 P) .nil .nil) (.node (Mine.o501 P) .nil .nil)) (.node (Mine.o270 P) (.node (Mine.o428 P) .nil .nil) (.node (Mine.o575 P) .nil .nil))) (.node (Mine.o8 P) (.node (Mine.o230 P) (.node (Mine.o8 P) .nil .nil) (.node (Mine.o538 P) .nil .nil)) (.node (Mine.o310 P) (.node (PySem.W.boot_o_7 P) .nil .nil) (.node (PySem.W.boot_o_8 P) .nil .nil)))) (.node (PySem.W.boot_o_7 P) (.node (Mine.o119 P) (.node (PySem.W.boot_o_7 P) (.node (PySem.W.boot_o_7 P) .nil .nil) (.node (PySem.W.boot_o_8 P) .nil .nil)) (.node (PySem.W.boot_o_8 P) (.node (Mine.o447 P) .nil .nil) (.node (PySem.W.boot_o_7 P) .nil .nil))) (.node (Mine.o162 P) (.node (PySem.W.boot_o_7 P) (.node (Mine.o410 P) .nil .nil) (.node (Mine.o556 P) .nil .nil)) (.node (Mine.o330 P) (.node (PySem.W.boot_o_7 P) .nil .nil) .nil)))))) (.node (Mine.o1 P) (.node (PySem.W.boot_o_7 P) (.node (Mine.o19 P) (.node (PySem.W.boot_o_7 P) (.node (Mine.o8 P) (.node (PySem.W.boot_o_7 P) (.node (PySem.W.boot_o_7 P) .nil .nil) (.node (Mine.o490 P) .nil .nil)) (.node (Mine.o256 P) (.node (PySem.W.boot_o_7 P) .nil .nil) (.node (PySem.W.boot_o_7 P) .nil .nil))) (.node (Mine.o129 P) (.node (Mine.o215 P) (.node (PySem.W.boot_o_7 P) .nil .nil) (.node (Mine.o527 P) .nil .nil)) (.node (Mine.o299 P) (.node (Mine.o453 P) .nil .nil) (.node (Mine.o601 P) .nil .nil)))) (.node (Mine.o62 P) (.node (Mine.o105 P) (.node (Mine.o188 P) (.node (Mine.o356 P) .nil .nil) (.node (Mine.o508 P) .nil .nil)) (.node (Mine.o279 P) (.node (PySem.W.boot_o_7 P) .nil .nil) (.node (Mine.o581 P) .nil .nil))) (.node (Mine.o151 P) (.node (PySem.W.boot_o_8 P) (.node (Mine.o399 P) .nil .nil) (.node (PySem.W.boot_o_7 P) .nil .nil)) (.node (PySem.W.boot_o_7 P) (.node (PySem.W.boot_o_8 P) .nil .nil) (.node (PySem.W.boot_o_7 P) .nil .nil))))) (.node (Mine.o32 P) (.node (Mine.o53 P) (.node (Mine.o95 P) (.node (Mine.o178 P) (.node (Mine.o347 P) .nil .nil) (.node (PySem.W.boot_o_7 P) .nil .nil)) (.node (PySem.W.boot_o_7 P) (.node (Mine.o426 P) .nil .nil) (.node (Mine.o572 P) .nil .nil))) (.node (Mine.o141 P) (.node (Mine.o226 P) (.node (Mine.o387 P) .nil .nil) (.node (PySem.W.boot_o_8 P) .nil .nil)) (.node (PySem.W.boot_o_8 P) (.node (Mine.o463 P) .nil .nil) (.node (Mine.o612 P) .nil .nil)))) (.node (Mine.o72 P) (.node (PySem.W.boot_o_7 P) (.node (Mine.o200 P) (.node (Mine.o366 P) .nil .nil) (.node (Mine.o517 P) .nil .nil)) (.node (Mine.o289 P) (.node (Mine.o444 P) .nil .nil) (.node (Mine.o591 P) .nil .nil))) (.node (PySem.W.boot_o_8 P) (.node (PySem.W.boot_o_7 P) (.node (PySem.W.boot_o_8 P) .nil .nil) (.node (Mine.o554 P) .nil .nil)) (.node (Mine.o326 P) (.node (PySem.W.boot_o_7 P) .nil .nil) .nil))))) (.node (PySem.W.boot_o_8 P) (.node (Mine.o27 P) (.node (PySem.W.boot_o_8 P) (.node (Mine.o88 P) (.node (Mine.o173 P) (.node (PySem.W.boot_o_8 P) .nil .nil) (.node (Mine.o495 P) .nil .nil)) (.node (Mine.o264 P) (.node (Mine.o421 P) .nil .nil) (.node (PySem.W.boot_o_8 P) .nil .nil))) (.node (PySem.W.boot_o_7 P) (.node (PySem.W.boot_o_7 P) (.node (PySem.W.boot_o_8 P) .nil .nil) (.node (PySem.W.boot_o_7 P) .nil .nil)) (.node (PySem.W.boot_o_7 P) (.node (Mine.o458 P) .nil .nil) (.node (PySem.W.boot_o_8 P) .nil .nil)))) (.node (Mine.o67 P) (.node (Mine.o113 P) (.node (PySem.W.boot_o_8 P) (.node (Mine.o361 P) .nil .nil) (.node (PySem.W.boot_o_7 P) .nil .nil)) (.node (PySem.W.boot_o_7 P) (.node (PySem.W.boot_o_8 P) .nil .nil) (.node (Mine.o586 P) .nil .nil))) (.node (PySem.W.boot_o_7 P) (.node (Mine.o242 P) (.node (PySem.W.boot_o_7 P) .nil .nil) (.node (Mine.o549 P) .nil .nil)) (.node (Mine.o321 P) (.node (Mine.o476 P) .nil .nil) .nil)))) (.node (Mine.o37 P) (.node (PySem.W.boot_o_7 P) (.node (Mine.o100 P) (.node (Mine.o183 P) (.node (PySem.W.boot_o_7 P) .nil .nil) (.node (PySem.W.boot_o_8 P) .nil .nil)) (.node (PySem.W.boot_o_8 P) (.node (Mine.o431 P) .nil .nil) (.node (PySem.W.boot_o_7 P) .nil .nil))) (.node (Mine.o146 P) (.node (PySem.W.boot_o_7 P) (.node (Mine.o394 P) .nil .nil) (.node (Mine.o540 P) .nil .nil)) (.node (Mine.o312 P) (.node (PySem.W.boot_o_7 P) .nil .nil) (.node (PySem.W.boot_o_7 P) .nil .nil)))) (.node (Mine.o77 P) (.node (Mine.o123 P) (.node (PySem.W.boot_o_7 P) (.node (Mine.o371 P) .nil .nil) (.node (Mine.o522 P) .nil .nil)) (.node (Mine.o294 P) (.node (PySem.W.boot_o_7 P) .nil .nil) (.node (PySem.W.boot_o_7 P) .nil .nil))) (.node (Mine.o164 P) (.node (Mine.o251 P) (.node (Mine.o412 P) .nil .nil) (.node (Mine.o559 P) .nil .nil)) (.node (Mine.o334 P) (.node (Mine.o485 P) .nil .nil) .nil)))))))))
noncomputable def heapF (P : Params) : Heap := .mk #[PySem.W.boot_o_0 P, PySem.W.boot_o_1 P, Mine.o201 P, Mine.o390 P, PySem.W.boot_o_4 P, PySem.W.boot_o_5 P, PySem.W.boot_o_6 P, PySem.W.boot_o_7 P, PySem.W.boot_o_8 P, PySem.W.boot_o_9 P, PySem.W.boot_o_10 P, PySem.W.boot_o_7 P, Mine.o391 P, Mine.o0 P, Mine.o1 P, PySem.W.boot_o_7 P, PySem.W.boot_o_8 P, Mine.o4 P, PySem.W.boot_o_7 P, Mine.o5 P, Mine.o6 P, Mine.o7 P, PySem.W.boot_o_7 P, Mine.o8 P, Mine.o9 P, PySem.W.boot_o_7 P, Mine.o10 P, Mine.o11 P, Mine.o12 P, PySem.W.boot_o_7 P, PySem.W.boot_o_8 P, Mine.o13 P, PySem.W.boot_o_7 P, Mine.o14 P, Mine.o15 P, Mine.o16 P, Mine.o17 P, Mine.o18 P, Mine.o19 P, Mine.o20 P, Mine.o21 P, Mine.o22 P, Mine.o23 P, Mine.o24 P, Mine.o25 P, Mine.o26 P, Mine.o27 P, Mine.o28 P, Mine.o29 P, PySem.W.boot_o_7 P, Mine.o8 P, Mine.o30 P, PySem.W.boot_o_7 P, Mine.o31 P, Mine.o32 P, Mine.o33 P, PySem.W.boot_o_7 P, PySem.W.boot_o_8 P, Mine.o34 P, PySem.W.boot_o_7 P, Mine.o35 P, Mine.o36 P, Mine.o37 P, Mine.o38 P, Mine.o39 P, Mine.o40 P, Mine.o41 P, Mine.o42 P, Mine.o43 P, Mine.o44 P, PySem.W.boot_o_7 P, Mine.o8 P, Mine.o45 P, PySem.W.boot_o_7 P, Mine.o46 P, Mine.o47 P, Mine.o48 P, PySem.W.boot_o_7 P, PySem.W.boot_o_8 P, Mine.o49 P, PySem.W.boot_o_7 P, Mine.o50 P, Mine.o51 P, Mine.o52 P, PySem.W.boot_o_7 P, PySem.W.boot_o_8 P, Mine.o53 P, PySem.W.boot_o_7 P, Mine.o54 P, Mine.o55 P, Mine.o56 P, PySem.W.boot_o_7 P, PySem.W.boot_o_8 P, Mine.o57 P, PySem.W.boot_o_7 P, Mine.o58 P, Mine.o59 P, Mine.o60 P, PySem.W.boot_o_7 P, PySem.W.boot_o_8 P, Mine.o61 P, PySem.W.boot_o_7 P, Mine.o62 P, Mine.o63 P, Mine.o64 P, PySem.W.boot_o_7 P, PySem.W.boot_o_8 P, Mine.o65 P, PySem.W.boot_o_7 P, Mine.o66 P, Mine.o67 P, Mine.o68 P, PySem.W.boot_o_7 P, PySem.W.boot_o_8 P, Mine.o69 P, PySem.W.boot_o_7 P, Mine.o70 P, Mine.o71 P, Mine.o72 P, PySem.W.boot_o_7 P, PySem.W.boot_o_8 P, Mine.o73 P, PySem.W.boot_o_7 P, Mine.o74 P, Mine.o75 P, Mine.o76 P, Mine.o77 P, Mine.o78 P, Mine.o79 P, Mine.o80 P, Mine.o81 P, Mine.o82 P, Mine.o83 P, PySem.W.boot_o_7 P, Mine.o8 P, Mine.o84 P, PySem.W.boot_o_7 P, Mine.o85 P, Mine.o86 P, Mine.o87 P, PySem.W.boot_o_7 P, PySem.W.boot_o_8 P, Mine.o88 P, PySem.W.boot_o_7 P, Mine.o89 P, Mine.o90 P, Mine.o91 P, Mine.o92 P, Mine.o93 P, Mine.o94 P, Mine.o95 P, Mine.o96 P, Mine.o97 P, Mine.o98 P, PySem.W.boot_o_7 P, Mine.o8 P, Mine.o99 P, PySem.W.boot_o_7 P, Mine.o100 P, Mine.o101 P, Mine.o102 P, PySem.W.boot_o_7 P, PySem.W.boot_o_8 P, Mine.o103 P, PySem.W.boot_o_7 P, Mine.o104 P, Mine.o105 P, Mine.o106 P, Mine.o107 P, Mine.o108 P, Mine.o109 P, Mine.o110 P, Mine.o111 P, Mine.o112 P, Mine.o113 P, PySem.W.boot_o_7 P, Mine.o8 P, Mine.o114 P, PySem.W.boot_o_7 P, Mine.o115 P, Mine.o116 P, Mine.o117 P, PySem.W.boot_o_7 P, PySem.W.boot_o_8 P, Mine.o118 P, PySem.W.boot_o_7 P, Mine.o119 P, Mine.o120 P, Mine.o121 P, Mine.o122 P, Mine.o123 P, Mine.o124 P, Mine.o125 P, Mine.o126 P, Mine.o127 P, Mine.o128 P, PySem.W.boot_o_7 P, Mine.o8 P, Mine.o129 P, PySem.W.boot_o_7 P, Mine.o130 P, Mine.o131 P, Mine.o132 P, PySem.W.boot_o_7 P, PySem.W.boot_o_8 P, Mine.o133 P, PySem.W.boot_o_7 P, Mine.o134 P, Mine.o135 P, Mine.o136 P, Mine.o137 P, Mine.o138 P, Mine.o139 P, Mine.o140 P, Mine.o141 P, Mine.o142 P, Mine.o143 P, PySem.W.boot_o_7 P, Mine.o8 P, Mine.o144 P, PySem.W.boot_o_7 P, Mine.o145 P, Mine.o146 P, Mine.o147 P, PySem.W.boot_o_7 P, PySem.W.boot_o_8 P, Mine.o148 P, PySem.W.boot_o_7 P, Mine.o149 P, Mine.o150 P, Mine.o151 P, PySem.W.boot_o_7 P, PySem.W.boot_o_8 P, Mine.o152 P, PySem.W.boot_o_7 P, Mine.o153 P, Mine.o154 P, Mine.o155 P, PySem.W.boot_o_7 P, PySem.W.boot_o_8 P, Mine.o156 P, PySem.W.boot_o_7 P, Mine.o157 P, Mine.o158 P, Mine.o159 P, PySem.W.boot_o_7 P, PySem.W.boot_o_8 P, Mine.o160 P, PySem.W.boot_o_7 P, Mine.o161 P, Mine.o162 P, Mine.o163 P, PySem.W.boot_o_7 P, PySem.W.boot_o_8 P, Mine.o164 P, PySem.W.boot_o_7 P, Mine.o165 P, Mine.o166 P, Mine.o167 P, PySem.W.boot_o_7 P, PySem.W.boot_o_8 P, Mine.o168 P, PySem.W.boot_o_7 P, Mine.o169 P, Mine.o170 P, Mine.o171 P, PySem.W.boot_o_7 P, PySem.W.boot_o_8 P, Mine.o172 P, PySem.W.boot_o_7 P, Mine.o173 P, Mine.o174 P, Mine.o175 P, PySem.W.boot_o_7 P, PySem.W.boot_o_8 P, Mine.o176 P, PySem.W.boot_o_7 P, Mine.o177 P, Mine.o178 P, Mine.o179 P, PySem.W.boot_o_7 P, PySem.W.boot_o_8 P, Mine.o180 P, PySem.W.boot_o_7 P, Mine.o181 P, Mine.o182 P, Mine.o183 P, PySem.W.boot_o_7 P, PySem.W.boot_o_8 P, Mine.o184 P, PySem.W.boot_o_7 P, Mine.o185 P, Mine.o186 P, Mine.o187 P, Mine.o188 P, Mine.o189 P, Mine.o204 P, Mine.o191 P, Mine.o192 P, Mine.o193 P, Mine.o194 P, PySem.W.boot_o_7 P, PySem.W.boot_o_8 P, Mine.o195 P, Mine.o196 P, Mine.o197 P, PySem.W.boot_o_7 P, PySem.W.boot_o_8 P, Mine.o198 P, Mine.o199 P, Mine.o200 P, Mine.o205 P, Mine.o8 P, Mine.o206 P, PySem.W.boot_o_7 P, Mine.o207 P, Mine.o208 P, Mine.o209 P, PySem.W.boot_o_7 P, PySem.W.boot_o_8 P, Mine.o210 P, PySem.W.boot_o_7 P, Mine.o211 P, Mine.o212 P, Mine.o213 P, Mine.o214 P, Mine.o215 P, Mine.o216 P, Mine.o217 P, Mine.o218 P, Mine.o219 P, Mine.o220 P, Mine.o8 P, Mine.o221 P, PySem.W.boot_o_7 P, Mine.o222 P, Mine.o223 P, Mine.o224 P, PySem.W.boot_o_7 P, PySem.W.boot_o_8 P, Mine.o225 P, PySem.W.boot_o_7 P, Mine.o226 P, Mine.o227 P, Mine.o228 P, Mine.o229 P, Mine.o230 P, Mine.o231 P, Mine.o232 P, Mine.o233 P, PySem.W.boot_o_7 P, PySem.W.boot_o_8 P, Mine.o234 P, PySem.W.boot_o_7 P, Mine.o235 P, Mine.o236 P, Mine.o237 P, PySem.W.boot_o_7 P, PySem.W.boot_o_8 P, Mine.o238 P, PySem.W.boot_o_7 P, Mine.o239 P, Mine.o240 P, Mine.o241 P, PySem.W.boot_o_7 P, Mine.o8 P, Mine.o242 P, PySem.W.boot_o_7 P, Mine.o243 P, Mine.o244 P, Mine.o245 P, PySem.W.boot_o_7 P, PySem.W.boot_o_8 P, Mine.o246 P, PySem.W.boot_o_7 P, Mine.o247 P, Mine.o248 P, Mine.o249 P, PySem.W.boot_o_7 P, PySem.W.boot_o_8 P, Mine.o250 P, PySem.W.boot_o_7 P, Mine.o251 P, Mine.o252 P, Mine.o253 P, PySem.W.boot_o_7 P, PySem.W.boot_o_8 P, Mine.o254 P, PySem.W.boot_o_7 P, Mine.o255 P, Mine.o256 P, Mine.o257 P, Mine.o258 P, Mine.o259 P, Mine.o260 P, Mine.o261 P, Mine.o262 P, Mine.o263 P, Mine.o264 P, PySem.W.boot_o_7 P, Mine.o8 P, Mine.o265 P, PySem.W.boot_o_7 P, Mine.o266 P, Mine.o267 P, Mine.o268 P, PySem.W.boot_o_7 P, PySem.W.boot_o_8 P, Mine.o269 P, PySem.W.boot_o_7 P, Mine.o270 P, Mine.o271 P, Mine.o272 P, PySem.W.boot_o_7 P, PySem.W.boot_o_8 P, Mine.o273 P, PySem.W.boot_o_7 P, Mine.o274 P, Mine.o275 P, Mine.o276 P, Mine.o277 P, Mine.o278 P, Mine.o279 P, Mine.o280 P, Mine.o281 P, Mine.o282 P, Mine.o283 P, PySem.W.boot_o_7 P, Mine.o8 P, Mine.o284 P, PySem.W.boot_o_7 P, Mine.o285 P, Mine.o286 P, Mine.o287 P, PySem.W.boot_o_7 P, PySem.W.boot_o_8 P, Mine.o288 P, PySem.W.boot_o_7 P, Mine.o289 P, Mine.o290 P, Mine.o291 P, PySem.W.boot_o_7 P, PySem.W.boot_o_8 P, Mine.o292 P, PySem.W.boot_o_7 P, Mine.o293 P, Mine.o294 P, Mine.o295 P, PySem.W.boot_o_7 P, PySem.W.boot_o_8 P, Mine.o296 P, PySem.W.boot_o_7 P, Mine.o297 P, Mine.o298 P, Mine.o299 P, PySem.W.boot_o_7 P, PySem.W.boot_o_8 P, Mine.o300 P, PySem.W.boot_o_7 P, Mine.o301 P, Mine.o302 P, Mine.o303 P, PySem.W.boot_o_7 P, PySem.W.boot_o_8 P, Mine.o304 P, PySem.W.boot_o_7 P, Mine.o305 P, Mine.o306 P, Mine.o307 P, PySem.W.boot_o_7 P, PySem.W.boot_o_8 P, Mine.o308 P, PySem.W.boot_o_7 P, Mine.o309 P, Mine.o310 P, Mine.o311 P, PySem.W.boot_o_7 P, PySem.W.boot_o_8 P, Mine.o312 P, PySem.W.boot_o_7 P, Mine.o313 P, Mine.o314 P, Mine.o315 P, PySem.W.boot_o_7 P, PySem.W.boot_o_8 P, Mine.o316 P, PySem.W.boot_o_7 P, Mine.o317 P, Mine.o318 P, Mine.o319 P, PySem.W.boot_o_7 P, PySem.W.boot_o_8 P, Mine.o320 P, PySem.W.boot_o_7 P, Mine.o321 P, Mine.o322 P, Mine.o323 P, PySem.W.boot_o_7 P, PySem.W.boot_o_8 P, Mine.o324 P, PySem.W.boot_o_7 P, Mine.o325 P, Mine.o326 P, Mine.o327 P, Mine.o328 P, Mine.o329 P, Mine.o330 P, Mine.o331 P, Mine.o332 P, Mine.o333 P, Mine.o334 P, PySem.W.boot_o_7 P, PySem.W.boot_o_8 P, Mine.o335 P, PySem.W.boot_o_7 P, Mine.o336 P, Mine.o337 P, Mine.o338 P, PySem.W.boot_o_7 P, PySem.W.boot_o_8 P, Mine.o339 P, PySem.W.boot_o_7 P, Mine.o340 P, Mine.o341 P, Mine.o342 P, PySem.W.boot_o_7 P, PySem.W.boot_o_8 P, Mine.o343 P, PySem.W.boot_o_7 P, Mine.o344 P, Mine.o345 P, Mine.o346 P, PySem.W.boot_o_7 P, PySem.W.boot_o_8 P, Mine.o347 P, PySem.W.boot_o_7 P, Mine.o348 P, Mine.o349 P, Mine.o350 P, PySem.W.boot_o_7 P, PySem.W.boot_o_8 P, Mine.o351 P, PySem.W.boot_o_7 P, Mine.o352 P, Mine.o353 P, Mine.o354 P, PySem.W.boot_o_7 P, PySem.W.boot_o_8 P, Mine.o355 P, PySem.W.boot_o_7 P, Mine.o356 P, Mine.o357 P, Mine.o358 P, PySem.W.boot_o_7 P, PySem.W.boot_o_8 P, Mine.o359 P, PySem.W.boot_o_7 P, Mine.o360 P, Mine.o361 P, Mine.o362 P, PySem.W.boot_o_7 P, PySem.W.boot_o_8 P, Mine.o363 P, PySem.W.boot_o_7 P, Mine.o364 P, Mine.o365 P, Mine.o366 P, PySem.W.boot_o_7 P, PySem.W.boot_o_8 P, Mine.o367 P, PySem.W.boot_o_7 P, Mine.o368 P, Mine.o369 P, Mine.o370 P, Mine.o371 P, Mine.o8 P, Mine.o372 P, PySem.W.boot_o_7 P, Mine.o373 P, Mine.o374 P, Mine.o375 P, Mine.o376 P, PySem.W.boot_o_7 P, PySem.W.boot_o_8 P, Mine.o377 P, PySem.W.boot_o_7 P, Mine.o378 P, Mine.o379 P, Mine.o380 P, PySem.W.boot_o_7 P, PySem.W.boot_o_8 P, Mine.o381 P, PySem.W.boot_o_7 P, Mine.o382 P, Mine.o383 P, Mine.o384 P, Mine.o385 P, Mine.o386 P, Mine.o387 P, Mine.o388 P, Mine.o389 P, PySem.W.boot_o_7 P, Mine.o8 P, Mine.o392 P, PySem.W.boot_o_7 P, Mine.o393 P, Mine.o394 P, Mine.o395 P, PySem.W.boot_o_7 P, PySem.W.boot_o_8 P, Mine.o396 P, PySem.W.boot_o_7 P, Mine.o397 P, Mine.o398 P, Mine.o399 P, PySem.W.boot_o_7 P, PySem.W.boot_o_8 P, Mine.o400 P, PySem.W.boot_o_7 P, Mine.o401 P, Mine.o402 P, Mine.o403 P, PySem.W.boot_o_7 P, PySem.W.boot_o_8 P, Mine.o404 P, PySem.W.boot_o_7 P, Mine.o405 P, Mine.o406 P, Mine.o407 P, PySem.W.boot_o_7 P, PySem.W.boot_o_8 P, Mine.o408 P, PySem.W.boot_o_7 P, Mine.o409 P, Mine.o410 P, Mine.o411 P, PySem.W.boot_o_7 P, PySem.W.boot_o_8 P, Mine.o412 P, PySem.W.boot_o_7 P, Mine.o413 P, Mine.o414 P, Mine.o415 P, PySem.W.boot_o_7 P, PySem.W.boot_o_8 P, Mine.o416 P, PySem.W.boot_o_7 P, Mine.o417 P, Mine.o418 P, Mine.o419 P, PySem.W.boot_o_7 P, PySem.W.boot_o_8 P, Mine.o420 P, PySem.W.boot_o_7 P, Mine.o421 P, Mine.o422 P, Mine.o423 P, PySem.W.boot_o_7 P, PySem.W.boot_o_8 P, Mine.o424 P, PySem.W.boot_o_7 P, Mine.o425 P, Mine.o426 P, Mine.o427 P, PySem.W.boot_o_7 P, PySem.W.boot_o_8 P, Mine.o428 P, PySem.W.boot_o_7 P, Mine.o429 P, Mine.o430 P, Mine.o431 P, PySem.W.boot_o_7 P, PySem.W.boot_o_8 P, Mine.o432 P, PySem.W.boot_o_7 P, Mine.o433 P, Mine.o434 P, Mine.o435 P, PySem.W.boot_o_7 P, PySem.W.boot_o_8 P, Mine.o436 P, PySem.W.boot_o_7 P, Mine.o437 P, Mine.o438 P, Mine.o439 P, PySem.W.boot_o_7 P, PySem.W.boot_o_8 P, Mine.o440 P, PySem.W.boot_o_7 P, Mine.o441 P, Mine.o442 P, Mine.o443 P, PySem.W.boot_o_7 P, PySem.W.boot_o_8 P, Mine.o444 P, PySem.W.boot_o_7 P, Mine.o445 P, Mine.o446 P, Mine.o447 P, PySem.W.boot_o_7 P, PySem.W.boot_o_8 P, Mine.o448 P, PySem.W.boot_o_7 P, Mine.o449 P, Mine.o450 P, Mine.o451 P, PySem.W.boot_o_7 P, PySem.W.boot_o_8 P, Mine.o452 P, PySem.W.boot_o_7 P, Mine.o453 P, Mine.o454 P, Mine.o455 P, PySem.W.boot_o_7 P, PySem.W.boot_o_8 P, Mine.o456 P, PySem.W.boot_o_7 P, Mine.o457 P, Mine.o458 P, Mine.o459 P, PySem.W.boot_o_7 P, PySem.W.boot_o_8 P, Mine.o460 P, PySem.W.boot_o_7 P, Mine.o461 P, Mine.o462 P, Mine.o463 P, PySem.W.boot_o_7 P, PySem.W.boot_o_8 P, Mine.o464 P, PySem.W.boot_o_7 P, Mine.o465 P, Mine.o466 P, Mine.o467 P, PySem.W.boot_o_7 P, PySem.W.boot_o_8 P, Mine.o468 P, PySem.W.boot_o_7 P, Mine.o469 P, Mine.o470 P, Mine.o471 P, PySem.W.boot_o_7 P, PySem.W.boot_o_8 P, Mine.o472 P, PySem.W.boot_o_7 P, Mine.o473 P, Mine.o474 P, Mine.o475 P, PySem.W.boot_o_7 P, PySem.W.boot_o_8 P, Mine.o476 P, PySem.W.boot_o_7 P, Mine.o477 P, Mine.o478 P, Mine.o479 P, PySem.W.boot_o_7 P, PySem.W.boot_o_8 P, Mine.o480 P, PySem.W.boot_o_7 P, Mine.o481 P, Mine.o482 P, Mine.o483 P, PySem.W.boot_o_7 P, PySem.W.boot_o_8 P, Mine.o484 P, PySem.W.boot_o_7 P, Mine.o485 P, Mine.o486 P, Mine.o487 P, PySem.W.boot_o_7 P, PySem.W.boot_o_8 P, Mine.o488 P, PySem.W.boot_o_7 P, Mine.o489 P, Mine.o490 P, Mine.o491 P, PySem.W.boot_o_7 P, PySem.W.boot_o_8 P, Mine.o492 P, PySem.W.boot_o_7 P, Mine.o493 P, Mine.o494 P, Mine.o495 P, PySem.W.boot_o_7 P, PySem.W.boot_o_8 P, Mine.o496 P, PySem.W.boot_o_7 P, Mine.o497 P, Mine.o498 P, Mine.o499 P, PySem.W.boot_o_7 P, PySem.W.boot_o_8 P, Mine.o500 P, PySem.W.boot_o_7 P, Mine.o501 P, Mine.o502 P, Mine.o503 P, PySem.W.boot_o_7 P, PySem.W.boot_o_8 P, Mine.o504 P, PySem.W.boot_o_7 P, Mine.o505 P, Mine.o506 P, Mine.o507 P, PySem.W.boot_o_7 P, PySem.W.boot_o_8 P, Mine.o508 P, PySem.W.boot_o_7 P, Mine.o509 P, Mine.o510 P, Mine.o511 P, PySem.W.boot_o_7 P, PySem.W.boot_o_8 P, Mine.o512 P, PySem.W.boot_o_7 P, Mine.o513 P, Mine.o514 P, Mine.o515 P, PySem.W.boot_o_7 P, PySem.W.boot_o_8 P, Mine.o516 P, PySem.W.boot_o_7 P, Mine.o517 P, Mine.o518 P, Mine.o519 P, PySem.W.boot_o_7 P, PySem.W.boot_o_8 P, Mine.o520 P, PySem.W.boot_o_7 P, Mine.o521 P, Mine.o522 P, Mine.o523 P, PySem.W.boot_o_7 P, PySem.W.boot_o_8 P, Mine.o524 P, PySem.W.boot_o_7 P, Mine.o525 P, Mine.o526 P, Mine.o527 P, PySem.W.boot_o_7 P, PySem.W.boot_o_8 P, Mine.o528 P, PySem.W.boot_o_7 P, Mine.o529 P, Mine.o530 P, Mine.o531 P, PySem.W.boot_o_7 P, PySem.W.boot_o_8 P, Mine.o532 P, PySem.W.boot_o_7 P, Mine.o533 P, Mine.o534 P, Mine.o535 P, PySem.W.boot_o_7 P, PySem.W.boot_o_8 P, Mine.o536 P, PySem.W.boot_o_7 P, Mine.o537 P, Mine.o538 P, Mine.o539 P, PySem.W.boot_o_7 P, PySem.W.boot_o_8 P, Mine.o540 P, PySem.W.boot_o_7 P, Mine.o541 P, Mine.o542 P, Mine.o543 P, PySem.W.boot_o_7 P, PySem.W.boot_o_8 P, Mine.o544 P, PySem.W.boot_o_7 P, Mine.o545 P, Mine.o546 P, Mine.o547 P, PySem.W.boot_o_7 P, PySem.W.boot_o_8 P, Mine.o548 P, PySem.W.boot_o_7 P, Mine.o549 P, Mine.o550 P, Mine.o551 P, PySem.W.boot_o_7 P, PySem.W.boot_o_8 P, Mine.o552 P, PySem.W.boot_o_7 P, Mine.o553 P, Mine.o554 P, Mine.o555 P, PySem.W.boot_o_7 P, PySem.W.boot_o_8 P, Mine.o556 P, PySem.W.boot_o_7 P, Mine.o557 P, Mine.o558 P, Mine.o559 P, PySem.W.boot_o_7 P, PySem.W.boot_o_8 P, Mine.o560 P, PySem.W.boot_o_7 P, Mine.o561 P, Mine.o562 P, Mine.o563 P, PySem.W.boot_o_7 P, PySem.W.boot_o_8 P, Mine.o564 P, PySem.W.boot_o_7 P, Mine.o565 P, Mine.o566 P, Mine.o567 P, PySem.W.boot_o_7 P, PySem.W.boot_o_8 P, Mine.o568 P, PySem.W.boot_o_7 P, Mine.o569 P, Mine.o570 P, Mine.o571 P, PySem.W.boot_o_7 P, PySem.W.boot_o_8 P, Mine.o572 P, PySem.W.boot_o_7 P, Mine.o573 P, Mine.o574 P, Mine.o575 P, PySem.W.boot_o_7 P, PySem.W.boot_o_8 P, Mine.o576 P, PySem.W.boot_o_7 P, Mine.o577 P, Mine.o578 P, Mine.o579 P, PySem.W.boot_o_7 P, PySem.W.boot_o_8 P, Mine.o580 P, PySem.W.boot_o_7 P, Mine.o581 P, Mine.o582 P, Mine.o583 P, PySem.W.boot_o_7 P, PySem.W.boot_o_8 P, Mine.o584 P, PySem.W.boot_o_7 P, Mine.o585 P, Mine.o586 P, Mine.o587 P, PySem.W.boot_o_7 P, PySem.W.boot_o_8 P, Mine.o588 P, PySem.W.boot_o_7 P, Mine.o589 P, Mine.o590 P, Mine.o591 P, PySem.W.boot_o_7 P, PySem.W.boot_o_8 P, Mine.o592 P, PySem.W.boot_o_7 P, Mine.o593 P, Mine.o594 P, Mine.o595 P, PySem.W.boot_o_7 P, PySem.W.boot_o_8 P, Mine.o596 P, PySem.W.boot_o_7 P, Mine.o597 P, Mine.o598 P, Mine.o599 P, Mine.o600 P, Mine.o601 P, Mine.o602 P, Mine.o603 P, Mine.o604 P, Mine.o605 P, Mine.o606 P, Mine.o607 P, PySem.W.boot_o_7 P, PySem.W.boot_o_8 P, Mine.o608 P, Mine.o609 P, Mine.o610 P, PySem.W.boot_o_7 P, PySem.W.boot_o_8 P, Mine.o611 P, PySem.W.boot_o_7 P, Mine.o612 P, Mine.o613 P, Mine.o614 P, PySem.W.boot_o_7 P, PySem.W.boot_o_8 P, Mine.o615 P, Mine.o616 P, Mine.o617 P, PySem.W.boot_o_7 P, PySem.W.boot_o_8 P, Mine.o618 P, Mine.o619 P, Mine.o620 P, PySem.W.boot_o_7 P, PySem.W.boot_o_8 P, Mine.o621 P, PySem.W.boot_o_7 P, Mine.o622 P, Mine.o623 P, Mine.o624 P] { }
noncomputable abbrev tpw : Program := PySem.Challenge.pw_pq1033_01
noncomputable def env : Env := { scope := tpw.main.scope, locals := mainNs, globals := mainNs, cells := [], code := .ref 13, frame := some 14 }
noncomputable def tb : List Stmt := behindTheImports tpw
noncomputable abbrev cd : Code := .body tb env
noncomputable def sts1 : List Stmt := tb.take 17
noncomputable def sts2 : List Stmt := (tb.drop 17).take 24
noncomputable def sts3 : List Stmt := tb.drop 41
noncomputable abbrev p0 : Pos := .mk 0 0 0 0
noncomputable abbrev B0 : List Frame := [topFrame p0]
noncomputable abbrev sh0 (w : World) (os : OsState) : SharedT := ⟨t0 w.params, 15, {}, #[], {}, 187, os⟩
noncomputable abbrev sh1 (w : World) (os : OsState) : SharedT := ⟨t1 w.params, 311, {}, #[], {}, 590, os⟩
noncomputable abbrev sh2 (w : World) (os : OsState) : SharedT := ⟨t2 w.params, 601, {}, #[], {}, 1004, os⟩
noncomputable abbrev sh3 (w : World) (os : OsState) : SharedT := ⟨t3 w.params, 1002, {}, #[], {}, 1490, os⟩
noncomputable abbrev seg := PySem.W.Fast.tw10110043849684766642 PySem.W.Fast.tw14364793385576792824 tpw
noncomputable def KF (P : Params) : Frag := (nat_lit 2, o201 P) :: (nat_lit 3, o390 P) :: (nat_lit 34, o15 P) :: (nat_lit 35, o16 P) :: (nat_lit 36, o17 P) :: (nat_lit 37, o18 P) :: (nat_lit 38, o19 P) :: (nat_lit 39, o20 P) :: (nat_lit 40, o21 P) :: (nat_lit 43, o24 P) :: (nat_lit 44, o25 P) :: (nat_lit 46, o27 P) :: (nat_lit 47, o28 P) :: (nat_lit 61, o36 P) :: (nat_lit 62, o37 P) :: (nat_lit 63, o38 P) :: (nat_lit 64, o39 P) :: (nat_lit 65, o40 P) :: (nat_lit 66, o41 P) :: (nat_lit 67, o42 P) :: (nat_lit 82, o51 P) :: (nat_lit 83, o52 P) :: (nat_lit 89, o55 P) :: (nat_lit 90, o56 P) :: (nat_lit 96, o59 P) :: (nat_lit 97, o60 P) :: (nat_lit 103, o63 P) :: (nat_lit 104, o64 P) :: (nat_lit 126, o77 P) :: (nat_lit 127, o78 P) :: (nat_lit 128, o79 P) :: (nat_lit 129, o80 P) :: (nat_lit 130, o81 P) :: (nat_lit 145, o90 P) :: (nat_lit 146, o91 P) :: (nat_lit 147, o92 P) :: (nat_lit 148, o93 P) :: (nat_lit 149, o94 P) :: (nat_lit 150, o95 P) :: (nat_lit 151, o96 P) :: (nat_lit 166, o105 P) :: (nat_lit 167, o106 P) :: (nat_lit 168, o107 P) :: (nat_lit 169, o108 P) :: (nat_lit 170, o109 P) :: (nat_lit 171, o110 P) :: (nat_lit 172, o111 P) :: (nat_lit 187, o120 P) :: (nat_lit 188, o121 P) :: (nat_lit 189, o122 P) :: (nat_lit 190, o123 P) :: (nat_lit 191, o124 P) :: (nat_lit 192, o125 P) :: (nat_lit 193, o126 P) :: (nat_lit 208, o135 P) :: (nat_lit 209, o136 P) :: (nat_lit 210, o137 P) :: (nat_lit 211, o138 P) :: (nat_lit 212, o139 P) :: (nat_lit 213, o140 P) :: (nat_lit 214, o141 P) :: (nat_lit 229, o150 P) :: (nat_lit 230, o151 P) :: (nat_lit 236, o154 P) :: (nat_lit 237, o155 P) :: (nat_lit 243, o158 P) :: (nat_lit 244, o159 P) :: (nat_lit 250, o162 P) :: (nat_lit 251, o163 P) :: (nat_lit 257, o166 P) :: (nat_lit 258, o167 P) :: (nat_lit 264, o170 P) :: (nat_lit 265, o171 P) :: (nat_lit 271, o174 P) :: (nat_lit 272, o175 P) :: (nat_lit 278, o178 P) :: (nat_lit 279, o179 P) :: (nat_lit 285, o182 P) :: (nat_lit 286, o183 P) :: (nat_lit 294, o188 P) :: (nat_lit 295, o189 P) :: (nat_lit 296, o204 P) :: (nat_lit 297, o191 P) :: (nat_lit 298, o192 P) :: (nat_lit 304, o196 P) :: (nat_lit 305, o197 P) :: (nat_lit 309, o199 P) :: (nat_lit 310, o200 P) :: (nat_lit 323, o212 P) :: (nat_lit 324, o213 P) :: (nat_lit 325, o214 P) :: (nat_lit 326, o215 P) :: (nat_lit 327, o216 P) :: (nat_lit 328, o217 P) :: (nat_lit 343, o227 P) :: (nat_lit 344, o228 P) :: (nat_lit 345, o229 P) :: (nat_lit 346, o230 P) :: (nat_lit 347, o231 P) :: (nat_lit 355, o236 P) :: (nat_lit 356, o237 P) :: (nat_lit 362, o240 P) :: (nat_lit 363, o241 P) :: (nat_lit 376, o248 P) :: (nat_lit 377, o249 P) :: (nat_lit 392, o258 P) :: (nat_lit 393, o259 P) :: (nat_lit 394, o260 P) :: (nat_lit 395, o261 P) :: (nat_lit 396, o262 P) :: (nat_lit 411, o271 P) :: (nat_lit 412, o272 P) :: (nat_lit 418, o275 P) :: (nat_lit 419, o276 P) :: (nat_lit 420, o277 P) :: (nat_lit 421, o278 P) :: (nat_lit 422, o279 P) :: (nat_lit 423, o280 P) :: (nat_lit 424, o281 P) :: (nat_lit 439, o290 P) :: (nat_lit 440, o291 P) :: (nat_lit 446, o294 P) :: (nat_lit 447, o295 P) :: (nat_lit 453, o298 P) :: (nat_lit 454, o299 P) :: (nat_lit 502, o326 P) :: (nat_lit 503, o327 P) :: (nat_lit 504, o328 P) :: (nat_lit 505, o329 P) :: (nat_lit 506, o330 P) :: (nat_lit 507, o331 P) :: (nat_lit 508, o332 P) :: (nat_lit 516, o337 P) :: (nat_lit 517, o338 P) :: (nat_lit 523, o341 P) :: (nat_lit 524, o342 P) :: (nat_lit 530, o345 P) :: (nat_lit 531, o346 P) :: (nat_lit 537, o349 P) :: (nat_lit 538, o350 P) :: (nat_lit 544, o353 P) :: (nat_lit 545, o354 P) :: (nat_lit 551, o357 P) :: (nat_lit 552, o358 P) :: (nat_lit 558, o361 P) :: (nat_lit 559, o362 P) :: (nat_lit 565, o365 P) :: (nat_lit 566, o366 P) :: (nat_lit 572, o369 P) :: (nat_lit 573, o370 P) :: (nat_lit 581, o376 P) :: (nat_lit 587, o379 P) :: (nat_lit 588, o380 P) :: (nat_lit 594, o383 P) :: (nat_lit 595, o384 P) :: (nat_lit 596, o385 P) :: (nat_lit 597, o386 P) :: (nat_lit 598, o387 P) :: (nat_lit 613, o398 P) :: (nat_lit 614, o399 P) :: (nat_lit 641, o414 P) :: (nat_lit 642, o415 P) :: (nat_lit 655, o422 P) :: (nat_lit 656, o423 P) :: (nat_lit 690, o442 P) :: (nat_lit 691, o443 P) :: (nat_lit 704, o450 P) :: (nat_lit 705, o451 P) :: (nat_lit 711, o454 P) :: (nat_lit 712, o455 P) :: (nat_lit 732, o466 P) :: (nat_lit 733, o467 P) :: (nat_lit 753, o478 P) :: (nat_lit 754, o479 P) :: (nat_lit 760, o482 P) :: (nat_lit 761, o483 P) :: (nat_lit 767, o486 P) :: (nat_lit 768, o487 P) :: (nat_lit 774, o490 P) :: (nat_lit 775, o491 P) :: (nat_lit 788, o498 P) :: (nat_lit 789, o499 P) :: (nat_lit 795, o502 P) :: (nat_lit 796, o503 P) :: (nat_lit 844, o530 P) :: (nat_lit 845, o531 P) :: (nat_lit 921, o574 P) :: (nat_lit 922, o575 P) :: (nat_lit 928, o578 P) :: (nat_lit 929, o579 P) :: (nat_lit 935, o582 P) :: (nat_lit 936, o583 P) :: (nat_lit 956, o594 P) :: (nat_lit 957, o595 P) :: (nat_lit 965, o600 P) :: (nat_lit 966, o601 P) :: (nat_lit 967, o602 P) :: (nat_lit 968, o603 P) :: (nat_lit 969, o604 P) :: (nat_lit 972, o607 P) :: (nat_lit 976, o609 P) :: (nat_lit 977, o610 P) :: (nat_lit 983, o613 P) :: (nat_lit 984, o614 P) :: (nat_lit 988, o616 P) :: (nat_lit 989, o617 P) :: (nat_lit 993, o619 P) :: (nat_lit 994, o620 P) :: (nat_lit 1000, o623 P) :: (nat_lit 1001, o624 P) :: []
noncomputable def KA : List Addr := [nat_lit 2, nat_lit 3, nat_lit 34, nat_lit 35, nat_lit 36, nat_lit 37, nat_lit 38, nat_lit 39, nat_lit 40, nat_lit 43, nat_lit 44, nat_lit 46, nat_lit 47, nat_lit 61, nat_lit 62, nat_lit 63, nat_lit 64, nat_lit 65, nat_lit 66, nat_lit 67, nat_lit 82, nat_lit 83, nat_lit 89, nat_lit 90, nat_lit 96, nat_lit 97, nat_lit 103, nat_lit 104, nat_lit 126, nat_lit 127, nat_lit 128, nat_lit 129, nat_lit 130, nat_lit 145, nat_lit 146, nat_lit 147, nat_lit 148, nat_lit 149, nat_lit 150, nat_lit 151, nat_lit 166, nat_lit 167, nat_lit 168, nat_lit 169, nat_lit 170, nat_lit 171, nat_lit 172, nat_lit 187, nat_lit 188, nat_lit 189, nat_lit 190, nat_lit 191, nat_lit 192, nat_lit 193, nat_lit 208, nat_lit 209, nat_lit 210, nat_lit 211, nat_lit 212, nat_lit 213, nat_lit 214, nat_lit 229, nat_lit 230, nat_lit 236, nat_lit 237, nat_lit 243, nat_lit 244, nat_lit 250, nat_lit 251, nat_lit 257, nat_lit 258, nat_lit 264, nat_lit 265, nat_lit 271, nat_lit 272, nat_lit 278, nat_lit 279, nat_lit 285, nat_lit 286, nat_lit 294, nat_lit 295, nat_lit 296, nat_lit 297, nat_lit 298, nat_lit 304, nat_lit 305, nat_lit 309, nat_lit 310, nat_lit 323, nat_lit 324, nat_lit 325, nat_lit 326, nat_lit 327, nat_lit 328, nat_lit 343, nat_lit 344, nat_lit 345, nat_lit 346, nat_lit 347, nat_lit 355, nat_lit 356, nat_lit 362, nat_lit 363, nat_lit 376, nat_lit 377, nat_lit 392, nat_lit 393, nat_lit 394, nat_lit 395, nat_lit 396, nat_lit 411, nat_lit 412, nat_lit 418, nat_lit 419, nat_lit 420, nat_lit 421, nat_lit 422, nat_lit 423, nat_lit 424, nat_lit 439, nat_lit 440, nat_lit 446, nat_lit 447, nat_lit 453, nat_lit 454, nat_lit 502, nat_lit 503, nat_lit 504, nat_lit 505, nat_lit 506, nat_lit 507, nat_lit 508, nat_lit 516, nat_lit 517, nat_lit 523, nat_lit 524, nat_lit 530, nat_lit 531, nat_lit 537, nat_lit 538, nat_lit 544, nat_lit 545, nat_lit 551, nat_lit 552, nat_lit 558, nat_lit 559, nat_lit 565, nat_lit 566, nat_lit 572, nat_lit 573, nat_lit 581, nat_lit 587, nat_lit 588, nat_lit 594, nat_lit 595, nat_lit 596, nat_lit 597, nat_lit 598, nat_lit 613, nat_lit 614, nat_lit 641, nat_lit 642, nat_lit 655, nat_lit 656, nat_lit 690, nat_lit 691, nat_lit 704, nat_lit 705, nat_lit 711, nat_lit 712, nat_lit 732, nat_lit 733, nat_lit 753, nat_lit 754, nat_lit 760, nat_lit 761, nat_lit 767, nat_lit 768, nat_lit 774, nat_lit 775, nat_lit 788, nat_lit 789, nat_lit 795, nat_lit 796, nat_lit 844, nat_lit 845, nat_lit 921, nat_lit 922, nat_lit 928, nat_lit 929, nat_lit 935, nat_lit 936, nat_lit 956, nat_lit 957, nat_lit 965, nat_lit 966, nat_lit 967, nat_lit 968, nat_lit 969, nat_lit 972, nat_lit 976, nat_lit 977, nat_lit 983, nat_lit 984, nat_lit 988, nat_lit 989, nat_lit 993, nat_lit 994, nat_lit 1000, nat_lit 1001]
theorem Pre : ∀ (w : World) (os : OsState), PySem.W.Fast.tw15667345088766844465 PySem.W.Fast.tw14364793385576792824 tpw w 11 (some (.ref 6)) 12 ⟨boot_heap w.params, #[], boot_drawn, boot_toks, os⟩ (topStub tpw) = some ((sh0 w os).abs, ⟨PySem.W.Fast.tw11892475500146522536 PySem.W.Fast.tw14364793385576792824 cd, cd, p0, B0⟩) := by
  intro w os; kernel_rfl
theorem Blk : ∀ (w : World) (os : OsState), PySem.W.Fast.tw14374325043358763698 PySem.W.Fast.tw14364793385576792824 tpw w 11 (some (.ref 6)) 1 1 (sh0 w os).abs (blockOf tb env cd p0 B0) = some (.next, (sh0 w os).abs, cd, p0) := by
  intro w os; kernel_rfl
theorem P1 : ∀ (w : World) (os : OsState), seg w 11 (some (.ref 6)) 1 2592 (sh0 w os) (piecesOf sts1 env cd p0 B0) = some (.next, sh1 w os, cd, .mk 109 0 109 8) := by
  intro w os; kernel_rfl
theorem P2 : ∀ (w : World) (os : OsState), seg w 11 (some (.ref 6)) 1 2237 (sh1 w os) (piecesOf sts2 env cd (.mk 109 0 109 8) B0) = some (.next, sh2 w os, cd, .mk 231 0 231 8) := by
  intro w os; kernel_rfl
theorem P3 : ∀ (w : World) (os : OsState), seg w 11 (some (.ref 6)) 1 2000 (sh2 w os) (piecesOf sts3 env cd (.mk 231 0 231 8) B0) = some (.next, sh3 w os, cd, .mk 444 0 455 15) := by
  intro w os; kernel_rfl
theorem Fin : ∀ (w : World) (os : OsState), PySem.W.Fast.tw14082659384304107361 PySem.W.Fast.tw14364793385576792824 tpw w 11 (some (.ref 6)) 2 (sh3 w os).abs ⟨doneF .next, cd, .mk 444 0 455 15, B0⟩ = some ⟨heapF w.params, #[], {}, 1490, os⟩ := by
  intro w os; kernel_rfl
theorem sizeL : ∀ w : World, ((boot_heap w.params).isNs mainGlobals && (Array.mk ([] : List GenState)).size == 0, (boot_heap w.params).objs.size, (boot_heap w.params).nsMap mainGlobals "__annotations__") = (true, 11, some (.ref 6)) := by
  intro w; kernel_rfl
theorem KAe : ∀ P, KA = (KF P).map (·.1) := by intro P; kernel_rfl
theorem lookK : ∀ w : World, KA.map (heapF w.params).get? = (KF w.params).map fun p => some p.2 := by
  intro w; kernel_rfl
theorem opn : opening PySem.Challenge.pw_pq1033_01 = plainProg PySem.Challenge.pw_pq1033_01.main.scope.names := by kernel_rfl
theorem fnc : ∀ s, fenceModules? PySem.Challenge.pw_pq1033_01 s = some s := by intro s; kernel_rfl
theorem opens : ∀ w : World, (fencedOpening treeTable PySem.Challenge.pw_pq1033_01 w 13778).map (fun s => (s.heap, s.gens, s.drawn, s.toks)) = some (boot_heap w.params, Array.mk [], boot_drawn, boot_toks) := boot_open opn (by decide +kernel) fnc

/-! the run, put together -/
theorem tb_parts : tb = sts1 ++ (sts2 ++ (sts3 ++ [])) := by kernel_rfl
theorem runT : ∀ (w : World) (os : OsState), topRun PySem.W.Fast.tw14364793385576792824 tpw w 11 (some (.ref 6)) (12 + (1 + (2592 + (2237 + (2000 + 2))))) ⟨boot_heap w.params, #[], boot_drawn, boot_toks, os⟩ (topStub tpw) = some ⟨heapF w.params, #[], {}, 1490, os⟩ := by
  intro w os
  have h0 := Pre w os
  have hb := Blk w os
  have h1 := P1 w os
  have h2 := P2 w os
  have h3 := P3 w os
  have h4 := Fin w os
  rw [← PySem.W.Fast.te15667345088766844465, ← PySem.W.Fast.te11892475500146522536] at h0
  rw [← PySem.W.Fast.te14374325043358763698] at hb
  unfold seg at h1 h2 h3
  rw [← PySem.W.Fast.te10110043849684766642] at h1 h2 h3
  rw [← PySem.W.Fast.te14082659384304107361] at h4
  refine go_top h0 (piece_block hb ?_)
  rw [show restOf tb env cd p0 [topFrame p0] = restOf (sts1 ++ (sts2 ++ (sts3 ++ []))) env cd p0 [topFrame p0] from congrArg (fun b => restOf b env cd p0 [topFrame p0]) tb_parts]
  exact piece_app (segRun_of h1) (piece_app (segRun_of h2) (piece_app (segRun_of h3) (piece_nil h4)))
theorem run : ∀ (w : World) (os : OsState), topRun treeTable PySem.Challenge.pw_pq1033_01 w 11 (some (.ref 6)) (12 + (1 + (2592 + (2237 + (2000 + 2))))) ⟨boot_heap w.params, Array.mk [], boot_drawn, boot_toks, os⟩ (topStub PySem.Challenge.pw_pq1033_01) = some ⟨heapF w.params, #[], {}, 1490, os⟩ := by
  intro w os
  have h := runT w os
  unfold tpw at h
  rw [← PySem.W.Fast.te14364793385576792824] at h
  exact h

/-! the looks -/
noncomputable abbrev qOf (p : Program) : Program := { p with main := { p.main with body := p.main.body.drop 48 } }
noncomputable abbrev looseOf (p : Program) : List Str := p.boundNames.filter fun n => n != Str.mk #[108, 97, 119]
theorem look1 : ∀ (w : World) (os : OsState), (staticsOk (importedModules tpw.main.body) (boot_heap w.params) (heapF w.params) && namesBound tpw (heapF w.params) && gensDone ⟨heapF w.params, #[], {}, 1490, os⟩ && laidKept (boot_heap w.params) (heapF w.params)) = true := by
  intro w os; kernel_rfl
theorem look2 : ∀ (w : World) (os : OsState), PySem.W.Fast.tw4187177175401517315 (qOf tpw) (looseOf tpw) (importedModules tpw.main.body) (fun s => xlAt (qOf tpw) [] s && recOk [] s) true ⟨heapF w.params, #[], {}, 1490, os⟩ = openGood (qOf tpw) (looseOf tpw) := by
  intro w os; kernel_rfl

noncomputable abbrev Hk : Hook := kHook KF KA KAe
noncomputable abbrev q : Program := qOf PySem.Challenge.pw_pq1033_01
noncomputable abbrev loose : List Str := looseOf PySem.Challenge.pw_pq1033_01
noncomputable abbrev dLaw : DefRec := ⟨.ofString "law", fa111, fb111, fs111, .mk 444 0 455 15⟩
theorem left : LeftO PySem.Challenge.pw_pq1033_01 q loose (fun s => xlAt q [] s && recOk [] s) Hk.obs Hk.val 13778 := by
  refine LeftO.of_pieces (H₀ := boot_heap) (H₁ := heapF) opens sizeL run (by decide +kernel) fun w => funext fun os => ?_
  have a := look1 w os
  have b := look2 w os
  unfold tpw at a b
  rw [← PySem.W.Fast.te4187177175401517315] at b
  exact Prod.ext a (Prod.ext b (lookK w))
set_option maxHeartbeats 400000000 in
theorem said : PySem.W.OpenLaw.wellSaid PySem.Challenge.rw_pq1033_01 = true := by
  repeat' ((with_reducible first | show (_ && _) = true | show OpenLaw.wellSaid _ = true | show OpenRow.wellSaid _ = true | show OpenRow.partSaid _ = true | show looksOpen _ = true); apply look_both)
  all_goals decide +kernel
theorem hd (walk : WalkO q loose (XL q []) (kHook KF KA KAe).says PySem.Challenge.rw_pq1033_01.row.toRowW dLaw [] fun f vs => PySem.call f vs) : PySem.Challenge.rw_pq1033_01.Holds := by
  refine holds_law said fun said => ?_
  refine holds_open (r := PySem.Challenge.rw_pq1033_01.row) (q := q) (loose := loose) (Xt := fun s => xlAt q [] s && recOk [] s) (XP := XL q []) (Yf := Hk.obs) (Ya := Hk.val) (YP := Hk.says) (d := dLaw) (kwd := []) (N := 13778)
    left Hk.of Hk.keeps (fun s e => xl_of s (Bool.and_eq_true_iff.mp e).1) XL.keeps (by kernel_rfl) (by kernel_rfl) (by kernel_rfl) (fun s e => recFacts_of (Bool.and_eq_true_iff.mp e).2) (by rfl) (by first | assumption | decide +kernel) (by decide +kernel) ⟨rfl, rfl, rfl, rfl, rfl, by decide +kernel⟩ ?hw walk
  w_witness2

/-! ## the frame of a contract -/
abbrev PG : Program := PySem.Challenge.rw_pq1033_01.row.prog
noncomputable abbrev LZ : List Str := looseW q loose
abbrev SK (w : World) := PySem.strKind PySem.Challenge.rw_pq1033_01.row.prog w
abbrev IK (w : World) := intKind PySem.Challenge.rw_pq1033_01.row.prog w
abbrev top (dp un : Nat) (gd : Option (List Code)) (env : Env) (outer : List Env) : Around := { handled := none, depth := dp, frames := some (env :: outer), guards := gd, units := un }
def Keep (h h' : Heap) (fp : List Addr) : Prop := ∀ b o, h.get? b = some o → b ∉ fp → h'.get? b = some o
abbrev Led := List (Addr × Obj)
def Fresh (h : Heap) (news new : Led) : Prop := ∀ p ∈ new, p.1 ∉ news.map (·.1) → h.get? p.1 = none

/-- a contract: n is the room it asks, news what it touches, mt the addresses that it changes -/
def Spec (w : World) (n : Nat) (f : Addr) (vs : List Value) (news : Led) (mt : List Addr) (Post : Value → Led → Prop) : Prop :=
  ∀ (dp un : Nat) (gd : Option (List Code)) (env : Env) (outer : List Env) (A₀ : Around) (base h₀ : Heap) (L : Addr) (m : Str → Option Value) (mean : ExcName → Option Value) (mg mb : Str → Option Value) (s : Shared) (Q E : Value → Shared → Prop),
    Below A₀ base outer h₀ → Fr h₀ L s.heap m → (KF w.params).In h₀ → News h₀ L s.heap news → Top q LZ mean mg mb h₀ → env.frame = some L → env.scope.kind = .function → dp + n < recursionLimit → un + 8 * n < cLine →
    (∀ v new h' tk', Post v new → Fr h₀ L h' m → News h₀ L h' new → Keep s.heap h' mt → Fresh s.heap news new → Q v { s with heap := h', toks := tk' }) →
    wpAny (model PG w) (top dp un gd env outer) (call (.ref f) vs) Q E s

theorem keep_mut {s g H h₀ : Heap} {L L₀ : Addr} {m : Str → Option Value} {news new : Led} {mt : List Addr} (G : GSub s g (news.map (·.1))) (F : Fr g L H m) (N : News h₀ L₀ s news) (N' : News h₀ L₀ H new) (hm : ∀ p ∈ news, p.1 ∈ mt ∨ p ∈ new) : Keep s H mt := fun b o e hb => by
  by_cases hn : b ∈ news.map (·.1)
  · obtain ⟨p, hp, rfl⟩ := List.mem_map.mp hn
    rcases hm p hp with h1 | h1
    · exact absurd h1 hb
    · have e1 := (N p hp).1
      rw [e] at e1
      cases e1
      exact (N' p h1).1
  · exact F.keep b o (G b o e hn)
/-- what a caller keeps of its ledger over a call -/
theorem News.over {h₀ h h' : Heap} {L : Addr} {news : Led} {mt : List Addr} (N : News h₀ L h news) (K : Keep h h' mt) (hn : ∀ p ∈ news, p.1 ∉ mt) : News h₀ L h' news :=
  fun p hp => ⟨K _ _ (N p hp).1 (hn p hp), (N p hp).2⟩
theorem Fresh.apart {h₀ h : Heap} {L : Addr} {news fp new : Led} (X : Fresh h fp new) (N : News h₀ L h news) {p : Addr × Obj} (hp : p ∈ new) (hf : p.1 ∉ fp.map (·.1)) : ∀ q ∈ news, q.1 ≠ p.1 := fun q hq e => by
  have h1 := X p hp hf
  rw [← e, (N q hq).1] at h1
  cases h1
theorem keep_of {s g H : Heap} {fp : List Addr} {L : Addr} {m : Str → Option Value} (G : GSub s g fp) (F : Fr g L H m) : Keep s H fp := fun b o e hb => F.keep b o (G b o e hb)
theorem fresh_of {s g H : Heap} {L : Addr} {news new : Led} (G : GSub s g (news.map (·.1))) (N : News g L H new) : Fresh s news new := fun p hp hn => by
  cases e : s.get? p.1 with
  | none => rfl
  | some o =>
    have h1 := G _ _ e hn
    rw [(N p hp).2.2] at h1
    cases h1
open PySem.Calls in
theorem code_defT {prog : Program} {w : World} {A₀ A : Around} {s : Shared} {base h₀ : Heap} {outer : List Env} {L : Addr} {m : Str → Option Value} {env : Env} {news : Led}
    {K : Frag} {p : Program} {lo : List Str} {mean : ExcName → Option Value} {mg mb : Str → Option Value} {R : Result → Shared → Prop} {name qual : Str} {params : Arguments} {body : List Stmt} {scope : Scope} {dV kV doc pm cdv ct oc : Value} {an od : Option Addr} {osl : Array (Option Value)} {f : Addr} {args : Args} {binds : List (Str × Value)}
    (B : Below A₀ base outer h₀) (F : Fr h₀ L s.heap m) (X₀ : K.In h₀) (N : News h₀ L s.heap news) (T : Top p lo mean mg mb h₀) (hA : A.frames = some (env :: outer)) (hf : env.frame = some L) (hke : env.scope.kind = .function)
    (ho : K.lookup f = some ⟨oc, od, .func (fnOf name qual params body scope dV kV doc pm an cdv ct), osl⟩) (hcd : codeIn K cdv qual = true) (hroom : A.depth < recursionLimit)
    (hbind : BindsTo s (fnOf name qual params body scope dV kV doc pm an cdv ct) args binds) (hloc : ∀ y ∈ binds, scope.names.lookup y.1 = some .local)
    (h : ∀ g L' h₁ tk, Fr h₀ L g m → Fr g L' h₁ (fun y => binds.reverse.lookup y) → News g L' h₁ news → Below A base (env :: outer) g → K.In g → Top p lo mean mg mb g → GSub s.heap g (news.map (·.1)) →
      wpAny (model prog w) (A.deeper (envOf qual scope L' f cdv)) (execs body (envOf qual scope L' f cdv))
        (fun fl s' => LeaveK h₀ L m g R (match fl with | .ret v => v | _ => .none) s')
        (fun e s' => wpAny (model prog w) (A.deeper (envOf qual scope L' f cdv)) (leaving (envOf qual scope L' f cdv) e) (fun _ s'' => R (.error e) s'') (fun e' s'' => R (.error e') s'') s')
        { s with heap := h₁, toks := tk })
    (hco : scope.isCoroutine = false) (hgen : scope.isGenerator = false) (hk : scope.kind = .function)
    (hcell : ∀ x ∈ scope.names, x.2 ≠ .cell) : codeAny (model prog w) A (.call (.ref f) args) R s :=
  code_defG B F X₀ N T hA hf hke ho hcd hroom hbind hloc (fun g L' h₁ a b c d e f' g' => h g L' h₁ _ a b c d e f' g') hco hgen hk hcell
open PySem.Calls in
theorem code_defT0 {prog : Program} {w : World} {A₀ A : Around} {s : Shared} {base h₀ : Heap} {outer : List Env} {L : Addr} {m : Str → Option Value} {env : Env} {news : Led}
    {K : Frag} {p : Program} {lo : List Str} {mean : ExcName → Option Value} {mg mb : Str → Option Value} {R : Result → Shared → Prop} {name qual : Str} {a1 : List Arg} {a2 : List Arg} {a3 : Option Arg} {a4 : List Arg} {a5 : List (Option PySem.Expr)} {a6 : Option Arg} {a7 : List PySem.Expr} {st : Stmt} {body : List Stmt} {c1 : ScopeKind} {c2 : List (Str × NameKind)} {c3 c4 : Bool} {c5 : List (Str × Const)} {dV kV doc pm cdv ct oc : Value} {an od : Option Addr} {osl : Array (Option Value)} {f : Addr} {args : Args} 
    (B : Below A₀ base outer h₀) (F : Fr h₀ L s.heap m) (X₀ : K.In h₀) (N : News h₀ L s.heap news) (T : Top p lo mean mg mb h₀) (hA : A.frames = some (env :: outer)) (hf : env.frame = some L) (hke : env.scope.kind = .function)
    (ho : K.lookup f = some ⟨oc, od, .func (fnOf name qual ⟨a1, a2, a3, a4, a5, a6, a7⟩ (st :: body) ⟨c1, c2, c3, c4, c5⟩ dV kV doc pm an cdv ct), osl⟩) (hcd : codeIn K cdv qual = true) (hroom : A.depth < recursionLimit)
    (hbind : BindsTo s (fnOf name qual ⟨a1, a2, a3, a4, a5, a6, a7⟩ (st :: body) ⟨c1, c2, c3, c4, c5⟩ dV kV doc pm an cdv ct) args []) (hloc : ∀ y ∈ ([] : List (Str × Value)), c2.lookup y.1 = some .local)
    (h : ∀ g L' h₁ tk, Fr h₀ L g m → Fr g L' h₁ (fun y => ([] : List (Str × Value)).reverse.lookup y) → News g L' h₁ news → Below A base (env :: outer) g → K.In g → Top p lo mean mg mb g → GSub s.heap g (news.map (·.1)) →
      wpAny (model prog w) (A.deeper (envOf qual ⟨c1, c2, c3, c4, c5⟩ L' f cdv)) (execs (st :: body) (envOf qual ⟨c1, c2, c3, c4, c5⟩ L' f cdv))
        (fun fl s' => LeaveK h₀ L m g R (match fl with | .ret v => v | _ => .none) s')
        (fun e s' => wpAny (model prog w) (A.deeper (envOf qual ⟨c1, c2, c3, c4, c5⟩ L' f cdv)) (leaving (envOf qual ⟨c1, c2, c3, c4, c5⟩ L' f cdv) e) (fun _ s'' => R (.error e) s'') (fun e' s'' => R (.error e') s'') s')
        { s with heap := h₁, toks := tk })
    (hco : c4 = false) (hgen : c3 = false) (hk : c1 = .function)
    (hcell : ∀ x ∈ c2, x.2 ≠ .cell) : codeAny (model prog w) A (.call (.ref f) args) R s :=
  code_defT B F X₀ N T hA hf hke ho hcd hroom hbind hloc h hco hgen hk hcell
open PySem.Calls in
theorem code_defT1 {prog : Program} {w : World} {A₀ A : Around} {s : Shared} {base h₀ : Heap} {outer : List Env} {L : Addr} {m : Str → Option Value} {env : Env} {news : Led}
    {K : Frag} {p : Program} {lo : List Str} {mean : ExcName → Option Value} {mg mb : Str → Option Value} {R : Result → Shared → Prop} {name qual : Str} {a1 : List Arg} {a2 : List Arg} {a3 : Option Arg} {a4 : List Arg} {a5 : List (Option PySem.Expr)} {a6 : Option Arg} {a7 : List PySem.Expr} {st : Stmt} {body : List Stmt} {c1 : ScopeKind} {c2 : List (Str × NameKind)} {c3 c4 : Bool} {c5 : List (Str × Const)} {dV kV doc pm cdv ct oc : Value} {an od : Option Addr} {osl : Array (Option Value)} {f : Addr} {args : Args} {n1 : Str} {v1 : Value}
    (hA : A.frames = some (env :: outer)) (hf : env.frame = some L) (hke : env.scope.kind = .function) (B : Below A₀ base outer h₀) (F : Fr h₀ L s.heap m) (X₀ : K.In h₀) (N : News h₀ L s.heap news) (T : Top p lo mean mg mb h₀)
    (ho : K.lookup f = some ⟨oc, od, .func (fnOf name qual ⟨a1, a2, a3, a4, a5, a6, a7⟩ (st :: body) ⟨c1, c2, c3, c4, c5⟩ dV kV doc pm an cdv ct), osl⟩) (hcd : codeIn K cdv qual = true) (hroom : A.depth < recursionLimit)
    (hbind : BindsTo s (fnOf name qual ⟨a1, a2, a3, a4, a5, a6, a7⟩ (st :: body) ⟨c1, c2, c3, c4, c5⟩ dV kV doc pm an cdv ct) args [(n1, v1)]) (hloc : ∀ y ∈ ([(n1, v1)] : List (Str × Value)), c2.lookup y.1 = some .local)
    (h : ∀ g L' h₁ tk, Fr h₀ L g m → Fr g L' h₁ (fun y => ([(n1, v1)] : List (Str × Value)).reverse.lookup y) → News g L' h₁ news → Below A base (env :: outer) g → K.In g → Top p lo mean mg mb g → GSub s.heap g (news.map (·.1)) →
      wpAny (model prog w) (A.deeper (envOf qual ⟨c1, c2, c3, c4, c5⟩ L' f cdv)) (execs (st :: body) (envOf qual ⟨c1, c2, c3, c4, c5⟩ L' f cdv))
        (fun fl s' => LeaveK h₀ L m g R (match fl with | .ret v => v | _ => .none) s')
        (fun e s' => wpAny (model prog w) (A.deeper (envOf qual ⟨c1, c2, c3, c4, c5⟩ L' f cdv)) (leaving (envOf qual ⟨c1, c2, c3, c4, c5⟩ L' f cdv) e) (fun _ s'' => R (.error e) s'') (fun e' s'' => R (.error e') s'') s')
        { s with heap := h₁, toks := tk })
    (hco : c4 = false) (hgen : c3 = false) (hk : c1 = .function)
    (hcell : ∀ x ∈ c2, x.2 ≠ .cell) : codeAny (model prog w) A (.call (.ref f) args) R s :=
  code_defT B F X₀ N T hA hf hke ho hcd hroom hbind hloc h hco hgen hk hcell
open PySem.Calls in
theorem code_defT2 {prog : Program} {w : World} {A₀ A : Around} {s : Shared} {base h₀ : Heap} {outer : List Env} {L : Addr} {m : Str → Option Value} {env : Env} {news : Led}
    {K : Frag} {p : Program} {lo : List Str} {mean : ExcName → Option Value} {mg mb : Str → Option Value} {R : Result → Shared → Prop} {name qual : Str} {a1 : List Arg} {a2 : List Arg} {a3 : Option Arg} {a4 : List Arg} {a5 : List (Option PySem.Expr)} {a6 : Option Arg} {a7 : List PySem.Expr} {st : Stmt} {body : List Stmt} {c1 : ScopeKind} {c2 : List (Str × NameKind)} {c3 c4 : Bool} {c5 : List (Str × Const)} {dV kV doc pm cdv ct oc : Value} {an od : Option Addr} {osl : Array (Option Value)} {f : Addr} {args : Args} {n1 n2 : Str} {v1 v2 : Value}
    (hA : A.frames = some (env :: outer)) (hf : env.frame = some L) (hke : env.scope.kind = .function) (B : Below A₀ base outer h₀) (F : Fr h₀ L s.heap m) (X₀ : K.In h₀) (N : News h₀ L s.heap news) (T : Top p lo mean mg mb h₀)
    (ho : K.lookup f = some ⟨oc, od, .func (fnOf name qual ⟨a1, a2, a3, a4, a5, a6, a7⟩ (st :: body) ⟨c1, c2, c3, c4, c5⟩ dV kV doc pm an cdv ct), osl⟩) (hcd : codeIn K cdv qual = true) (hroom : A.depth < recursionLimit)
    (hbind : BindsTo s (fnOf name qual ⟨a1, a2, a3, a4, a5, a6, a7⟩ (st :: body) ⟨c1, c2, c3, c4, c5⟩ dV kV doc pm an cdv ct) args [(n1, v1), (n2, v2)]) (hloc : ∀ y ∈ ([(n1, v1), (n2, v2)] : List (Str × Value)), c2.lookup y.1 = some .local)
    (h : ∀ g L' h₁ tk, Fr h₀ L g m → Fr g L' h₁ (fun y => ([(n1, v1), (n2, v2)] : List (Str × Value)).reverse.lookup y) → News g L' h₁ news → Below A base (env :: outer) g → K.In g → Top p lo mean mg mb g → GSub s.heap g (news.map (·.1)) →
      wpAny (model prog w) (A.deeper (envOf qual ⟨c1, c2, c3, c4, c5⟩ L' f cdv)) (execs (st :: body) (envOf qual ⟨c1, c2, c3, c4, c5⟩ L' f cdv))
        (fun fl s' => LeaveK h₀ L m g R (match fl with | .ret v => v | _ => .none) s')
        (fun e s' => wpAny (model prog w) (A.deeper (envOf qual ⟨c1, c2, c3, c4, c5⟩ L' f cdv)) (leaving (envOf qual ⟨c1, c2, c3, c4, c5⟩ L' f cdv) e) (fun _ s'' => R (.error e) s'') (fun e' s'' => R (.error e') s'') s')
        { s with heap := h₁, toks := tk })
    (hco : c4 = false) (hgen : c3 = false) (hk : c1 = .function)
    (hcell : ∀ x ∈ c2, x.2 ≠ .cell) : codeAny (model prog w) A (.call (.ref f) args) R s :=
  code_defT B F X₀ N T hA hf hke ho hcd hroom hbind hloc h hco hgen hk hcell
open PySem.Calls in
theorem code_defT3 {prog : Program} {w : World} {A₀ A : Around} {s : Shared} {base h₀ : Heap} {outer : List Env} {L : Addr} {m : Str → Option Value} {env : Env} {news : Led}
    {K : Frag} {p : Program} {lo : List Str} {mean : ExcName → Option Value} {mg mb : Str → Option Value} {R : Result → Shared → Prop} {name qual : Str} {a1 : List Arg} {a2 : List Arg} {a3 : Option Arg} {a4 : List Arg} {a5 : List (Option PySem.Expr)} {a6 : Option Arg} {a7 : List PySem.Expr} {st : Stmt} {body : List Stmt} {c1 : ScopeKind} {c2 : List (Str × NameKind)} {c3 c4 : Bool} {c5 : List (Str × Const)} {dV kV doc pm cdv ct oc : Value} {an od : Option Addr} {osl : Array (Option Value)} {f : Addr} {args : Args} {n1 n2 n3 : Str} {v1 v2 v3 : Value}
    (hA : A.frames = some (env :: outer)) (hf : env.frame = some L) (hke : env.scope.kind = .function) (B : Below A₀ base outer h₀) (F : Fr h₀ L s.heap m) (X₀ : K.In h₀) (N : News h₀ L s.heap news) (T : Top p lo mean mg mb h₀)
    (ho : K.lookup f = some ⟨oc, od, .func (fnOf name qual ⟨a1, a2, a3, a4, a5, a6, a7⟩ (st :: body) ⟨c1, c2, c3, c4, c5⟩ dV kV doc pm an cdv ct), osl⟩) (hcd : codeIn K cdv qual = true) (hroom : A.depth < recursionLimit)
    (hbind : BindsTo s (fnOf name qual ⟨a1, a2, a3, a4, a5, a6, a7⟩ (st :: body) ⟨c1, c2, c3, c4, c5⟩ dV kV doc pm an cdv ct) args [(n1, v1), (n2, v2), (n3, v3)]) (hloc : ∀ y ∈ ([(n1, v1), (n2, v2), (n3, v3)] : List (Str × Value)), c2.lookup y.1 = some .local)
    (h : ∀ g L' h₁ tk, Fr h₀ L g m → Fr g L' h₁ (fun y => ([(n1, v1), (n2, v2), (n3, v3)] : List (Str × Value)).reverse.lookup y) → News g L' h₁ news → Below A base (env :: outer) g → K.In g → Top p lo mean mg mb g → GSub s.heap g (news.map (·.1)) →
      wpAny (model prog w) (A.deeper (envOf qual ⟨c1, c2, c3, c4, c5⟩ L' f cdv)) (execs (st :: body) (envOf qual ⟨c1, c2, c3, c4, c5⟩ L' f cdv))
        (fun fl s' => LeaveK h₀ L m g R (match fl with | .ret v => v | _ => .none) s')
        (fun e s' => wpAny (model prog w) (A.deeper (envOf qual ⟨c1, c2, c3, c4, c5⟩ L' f cdv)) (leaving (envOf qual ⟨c1, c2, c3, c4, c5⟩ L' f cdv) e) (fun _ s'' => R (.error e) s'') (fun e' s'' => R (.error e') s'') s')
        { s with heap := h₁, toks := tk })
    (hco : c4 = false) (hgen : c3 = false) (hk : c1 = .function)
    (hcell : ∀ x ∈ c2, x.2 ≠ .cell) : codeAny (model prog w) A (.call (.ref f) args) R s :=
  code_defT B F X₀ N T hA hf hke ho hcd hroom hbind hloc h hco hgen hk hcell
open PySem.Calls in
theorem code_defT4 {prog : Program} {w : World} {A₀ A : Around} {s : Shared} {base h₀ : Heap} {outer : List Env} {L : Addr} {m : Str → Option Value} {env : Env} {news : Led}
    {K : Frag} {p : Program} {lo : List Str} {mean : ExcName → Option Value} {mg mb : Str → Option Value} {R : Result → Shared → Prop} {name qual : Str} {a1 : List Arg} {a2 : List Arg} {a3 : Option Arg} {a4 : List Arg} {a5 : List (Option PySem.Expr)} {a6 : Option Arg} {a7 : List PySem.Expr} {st : Stmt} {body : List Stmt} {c1 : ScopeKind} {c2 : List (Str × NameKind)} {c3 c4 : Bool} {c5 : List (Str × Const)} {dV kV doc pm cdv ct oc : Value} {an od : Option Addr} {osl : Array (Option Value)} {f : Addr} {args : Args} {n1 n2 n3 n4 : Str} {v1 v2 v3 v4 : Value}
    (hA : A.frames = some (env :: outer)) (hf : env.frame = some L) (hke : env.scope.kind = .function) (B : Below A₀ base outer h₀) (F : Fr h₀ L s.heap m) (X₀ : K.In h₀) (N : News h₀ L s.heap news) (T : Top p lo mean mg mb h₀)
    (ho : K.lookup f = some ⟨oc, od, .func (fnOf name qual ⟨a1, a2, a3, a4, a5, a6, a7⟩ (st :: body) ⟨c1, c2, c3, c4, c5⟩ dV kV doc pm an cdv ct), osl⟩) (hcd : codeIn K cdv qual = true) (hroom : A.depth < recursionLimit)
    (hbind : BindsTo s (fnOf name qual ⟨a1, a2, a3, a4, a5, a6, a7⟩ (st :: body) ⟨c1, c2, c3, c4, c5⟩ dV kV doc pm an cdv ct) args [(n1, v1), (n2, v2), (n3, v3), (n4, v4)]) (hloc : ∀ y ∈ ([(n1, v1), (n2, v2), (n3, v3), (n4, v4)] : List (Str × Value)), c2.lookup y.1 = some .local)
    (h : ∀ g L' h₁ tk, Fr h₀ L g m → Fr g L' h₁ (fun y => ([(n1, v1), (n2, v2), (n3, v3), (n4, v4)] : List (Str × Value)).reverse.lookup y) → News g L' h₁ news → Below A base (env :: outer) g → K.In g → Top p lo mean mg mb g → GSub s.heap g (news.map (·.1)) →
      wpAny (model prog w) (A.deeper (envOf qual ⟨c1, c2, c3, c4, c5⟩ L' f cdv)) (execs (st :: body) (envOf qual ⟨c1, c2, c3, c4, c5⟩ L' f cdv))
        (fun fl s' => LeaveK h₀ L m g R (match fl with | .ret v => v | _ => .none) s')
        (fun e s' => wpAny (model prog w) (A.deeper (envOf qual ⟨c1, c2, c3, c4, c5⟩ L' f cdv)) (leaving (envOf qual ⟨c1, c2, c3, c4, c5⟩ L' f cdv) e) (fun _ s'' => R (.error e) s'') (fun e' s'' => R (.error e') s'') s')
        { s with heap := h₁, toks := tk })
    (hco : c4 = false) (hgen : c3 = false) (hk : c1 = .function)
    (hcell : ∀ x ∈ c2, x.2 ≠ .cell) : codeAny (model prog w) A (.call (.ref f) args) R s :=
  code_defT B F X₀ N T hA hf hke ho hcd hroom hbind hloc h hco hgen hk hcell
open PySem.Calls in
theorem code_defT5 {prog : Program} {w : World} {A₀ A : Around} {s : Shared} {base h₀ : Heap} {outer : List Env} {L : Addr} {m : Str → Option Value} {env : Env} {news : Led}
    {K : Frag} {p : Program} {lo : List Str} {mean : ExcName → Option Value} {mg mb : Str → Option Value} {R : Result → Shared → Prop} {name qual : Str} {a1 : List Arg} {a2 : List Arg} {a3 : Option Arg} {a4 : List Arg} {a5 : List (Option PySem.Expr)} {a6 : Option Arg} {a7 : List PySem.Expr} {st : Stmt} {body : List Stmt} {c1 : ScopeKind} {c2 : List (Str × NameKind)} {c3 c4 : Bool} {c5 : List (Str × Const)} {dV kV doc pm cdv ct oc : Value} {an od : Option Addr} {osl : Array (Option Value)} {f : Addr} {args : Args} {n1 n2 n3 n4 n5 : Str} {v1 v2 v3 v4 v5 : Value}
    (hA : A.frames = some (env :: outer)) (hf : env.frame = some L) (hke : env.scope.kind = .function) (B : Below A₀ base outer h₀) (F : Fr h₀ L s.heap m) (X₀ : K.In h₀) (N : News h₀ L s.heap news) (T : Top p lo mean mg mb h₀)
    (ho : K.lookup f = some ⟨oc, od, .func (fnOf name qual ⟨a1, a2, a3, a4, a5, a6, a7⟩ (st :: body) ⟨c1, c2, c3, c4, c5⟩ dV kV doc pm an cdv ct), osl⟩) (hcd : codeIn K cdv qual = true) (hroom : A.depth < recursionLimit)
    (hbind : BindsTo s (fnOf name qual ⟨a1, a2, a3, a4, a5, a6, a7⟩ (st :: body) ⟨c1, c2, c3, c4, c5⟩ dV kV doc pm an cdv ct) args [(n1, v1), (n2, v2), (n3, v3), (n4, v4), (n5, v5)]) (hloc : ∀ y ∈ ([(n1, v1), (n2, v2), (n3, v3), (n4, v4), (n5, v5)] : List (Str × Value)), c2.lookup y.1 = some .local)
    (h : ∀ g L' h₁ tk, Fr h₀ L g m → Fr g L' h₁ (fun y => ([(n1, v1), (n2, v2), (n3, v3), (n4, v4), (n5, v5)] : List (Str × Value)).reverse.lookup y) → News g L' h₁ news → Below A base (env :: outer) g → K.In g → Top p lo mean mg mb g → GSub s.heap g (news.map (·.1)) →
      wpAny (model prog w) (A.deeper (envOf qual ⟨c1, c2, c3, c4, c5⟩ L' f cdv)) (execs (st :: body) (envOf qual ⟨c1, c2, c3, c4, c5⟩ L' f cdv))
        (fun fl s' => LeaveK h₀ L m g R (match fl with | .ret v => v | _ => .none) s')
        (fun e s' => wpAny (model prog w) (A.deeper (envOf qual ⟨c1, c2, c3, c4, c5⟩ L' f cdv)) (leaving (envOf qual ⟨c1, c2, c3, c4, c5⟩ L' f cdv) e) (fun _ s'' => R (.error e) s'') (fun e' s'' => R (.error e') s'') s')
        { s with heap := h₁, toks := tk })
    (hco : c4 = false) (hgen : c3 = false) (hk : c1 = .function)
    (hcell : ∀ x ∈ c2, x.2 ≠ .cell) : codeAny (model prog w) A (.call (.ref f) args) R s :=
  code_defT B F X₀ N T hA hf hke ho hcd hroom hbind hloc h hco hgen hk hcell
open PySem.Calls in
theorem code_defT6 {prog : Program} {w : World} {A₀ A : Around} {s : Shared} {base h₀ : Heap} {outer : List Env} {L : Addr} {m : Str → Option Value} {env : Env} {news : Led}
    {K : Frag} {p : Program} {lo : List Str} {mean : ExcName → Option Value} {mg mb : Str → Option Value} {R : Result → Shared → Prop} {name qual : Str} {a1 : List Arg} {a2 : List Arg} {a3 : Option Arg} {a4 : List Arg} {a5 : List (Option PySem.Expr)} {a6 : Option Arg} {a7 : List PySem.Expr} {st : Stmt} {body : List Stmt} {c1 : ScopeKind} {c2 : List (Str × NameKind)} {c3 c4 : Bool} {c5 : List (Str × Const)} {dV kV doc pm cdv ct oc : Value} {an od : Option Addr} {osl : Array (Option Value)} {f : Addr} {args : Args} {n1 n2 n3 n4 n5 n6 : Str} {v1 v2 v3 v4 v5 v6 : Value}
    (hA : A.frames = some (env :: outer)) (hf : env.frame = some L) (hke : env.scope.kind = .function) (B : Below A₀ base outer h₀) (F : Fr h₀ L s.heap m) (X₀ : K.In h₀) (N : News h₀ L s.heap news) (T : Top p lo mean mg mb h₀)
    (ho : K.lookup f = some ⟨oc, od, .func (fnOf name qual ⟨a1, a2, a3, a4, a5, a6, a7⟩ (st :: body) ⟨c1, c2, c3, c4, c5⟩ dV kV doc pm an cdv ct), osl⟩) (hcd : codeIn K cdv qual = true) (hroom : A.depth < recursionLimit)
    (hbind : BindsTo s (fnOf name qual ⟨a1, a2, a3, a4, a5, a6, a7⟩ (st :: body) ⟨c1, c2, c3, c4, c5⟩ dV kV doc pm an cdv ct) args [(n1, v1), (n2, v2), (n3, v3), (n4, v4), (n5, v5), (n6, v6)]) (hloc : ∀ y ∈ ([(n1, v1), (n2, v2), (n3, v3), (n4, v4), (n5, v5), (n6, v6)] : List (Str × Value)), c2.lookup y.1 = some .local)
    (h : ∀ g L' h₁ tk, Fr h₀ L g m → Fr g L' h₁ (fun y => ([(n1, v1), (n2, v2), (n3, v3), (n4, v4), (n5, v5), (n6, v6)] : List (Str × Value)).reverse.lookup y) → News g L' h₁ news → Below A base (env :: outer) g → K.In g → Top p lo mean mg mb g → GSub s.heap g (news.map (·.1)) →
      wpAny (model prog w) (A.deeper (envOf qual ⟨c1, c2, c3, c4, c5⟩ L' f cdv)) (execs (st :: body) (envOf qual ⟨c1, c2, c3, c4, c5⟩ L' f cdv))
        (fun fl s' => LeaveK h₀ L m g R (match fl with | .ret v => v | _ => .none) s')
        (fun e s' => wpAny (model prog w) (A.deeper (envOf qual ⟨c1, c2, c3, c4, c5⟩ L' f cdv)) (leaving (envOf qual ⟨c1, c2, c3, c4, c5⟩ L' f cdv) e) (fun _ s'' => R (.error e) s'') (fun e' s'' => R (.error e') s'') s')
        { s with heap := h₁, toks := tk })
    (hco : c4 = false) (hgen : c3 = false) (hk : c1 = .function)
    (hcell : ∀ x ∈ c2, x.2 ≠ .cell) : codeAny (model prog w) A (.call (.ref f) args) R s :=
  code_defT B F X₀ N T hA hf hke ho hcd hroom hbind hloc h hco hgen hk hcell
theorem locs' {names : List (Str × NameKind)} {binds : List (Str × Value)} (h : (binds.all fun x => decide (names.lookup x.1 = some .local)) = true) : ∀ x ∈ binds, names.lookup x.1 = some .local := fun x hx => of_decide_eq_true (List.all_eq_true.mp h x hx)
/-! ## rules of my own over the ledger -/
section
variable {prog : Program} {w : World} {M : Model} {A : Around} {E : Value → Shared → Prop} {s : Shared} {h₀ h h' : Heap} {L D : Addr} {m : Str → Option Value} {news news' : Led} {its : Array Value} {n : Nat}
theorem small_line {k : Nat} (h : k ≤ 1000) : k ≤ sizeLine := by rw [sizeLine_eq]; omega
theorem isList_M {its : Array Value} (N : News h₀ L h news) (hm : (D, W.listOf its n) ∈ news) : h.IsList D its := ⟨_, (N _ hm).1, rfl, n, rfl⟩
theorem len_M {Q : Value → Shared → Prop} (N : News h₀ L s.heap news) (hm : (D, W.listOf its n) ∈ news) (hfit : its.size ≤ 1000) (h : Q (.int its.size (s.toks + 1)) { s with toks := s.toks + 1 + 1 }) :
    wpAny (model prog w) A (call (.builtin "len") [.ref D]) Q E s := Calls.call_len_list (isList_M N hm) (by omega) h
theorem item_M {value slice : PySem.Expr} {k : Int} {u : Tok} {v : Value} {Q : Value → Shared → Prop} (N : News h₀ L s.heap news) (hm : (D, W.listOf its n) ∈ news) (h0 : 0 ≤ k) (h1 : k < 100000) (hx : its[k.toNat]? = some v) (h : Q v s)
    (hs : subscripted slice false (.ref D) (.int k u) = operate [.ref D, .int k u] (getItem (.ref D) (.int k u)) := by with_unfolding_all rfl) :
    wpAny (model prog w) A (subscriptTail value slice (.ref D) (.int k u)) Q E s :=
  tail_any (isList_M N hm).typeIs slot_list_getitem.lookup (wpAny_getItem_list (isList_M N hm) h0 (by omega) hx h) hs
theorem extend_M {x : Value} {b : Addr} {n2 : Nat} {Q : Value → Shared → Prop} (F : Fr h₀ L s.heap m) (N : News h₀ L s.heap news) (hb : (b, W.listOf #[x] n2) ∈ news) (U : Upd D (W.listOf its n) (W.listOf (its.push x) (n + 1)) news news') (hz : its.size ≤ 1000)
    (h : ∀ h', Fr h₀ L h' m → News h₀ L h' news' → Q .none { s with heap := h' }) : wpAny (model prog w) A (call (.builtin "list.extend") [.ref D, .ref b]) Q E s := by
  have e : its.push x = (its.toList ++ [x]).toArray := by apply Array.toList_inj.mp; simp
  rw [e] at U
  refine kl_extend F N hb rfl (Nat.succ_ne_zero _) U ?_ ?_ ?_ h
  · have : Builtin.List.listTooLong (its.size + (#[x] : Array Value).size) = false := by
      unfold Builtin.List.listTooLong
      rw [sizeLine_eq]
      exact decide_eq_false (by simp; omega)
    rw [this, Bool.and_false]; exact Bool.false_ne_true
  · rw [Array.length_toList]; exact small_line hz
  · rw [sizeLine_eq]; simp; omega
theorem append_M {x : Value} {Q : Value → Shared → Prop} (F : Fr h₀ L s.heap m) (N : News h₀ L s.heap news) (U : Upd D (W.listOf its n) (W.listOf (its.push x) (n + 1)) news news') (hsz : its.size ≤ 1000)
    (h : ∀ h', Fr h₀ L h' m → News h₀ L h' news' → Q .none { s with heap := h' }) : wpAny (model prog w) A (call (.builtin "list.append") [.ref D, x]) Q E s :=
  append_K F N U h (small_line hsz)
end
theorem asks : KF = KF ∧ PySem.Challenge.rw_pq1033_01 = PySem.Challenge.rw_pq1033_01 := ⟨rfl, rfl⟩
theorem fill1 : KF = KF ∧ PySem.Challenge.rw_pq1033_01 = PySem.Challenge.rw_pq1033_01 := by k_fill; exact asks

theorem fac {α : Type} {p : α → Prop} {a : α} {l : List α} (h : p a) (t : ∀ x ∈ l, p x) : ∀ x ∈ a :: l, p x := List.forall_mem_cons.mpr ⟨h, t⟩
theorem fax {b : Addr} {o : Obj} {l : List Addr} {n : List (Addr × Obj)} (h : (b, o) ∈ n) (t : ∀ x ∈ l, ∃ o, (x, o) ∈ n) : ∀ x ∈ b :: l, ∃ o, (x, o) ∈ n := fac ⟨o, h⟩ t
theorem kfm0 {α : Type} {b : α} {l : List α} : b ∈ b :: l := .head _
theorem kfm1 {α : Type} {kz0 : α} {b : α} {l : List α} : b ∈ kz0 :: b :: l := .tail _ kfm0
theorem kfm2 {α : Type} {kz0 kz1 : α} {b : α} {l : List α} : b ∈ kz0 :: kz1 :: b :: l := .tail _ kfm1
theorem kfm3 {α : Type} {kz0 kz1 kz2 : α} {b : α} {l : List α} : b ∈ kz0 :: kz1 :: kz2 :: b :: l := .tail _ kfm2
theorem kfm4 {α : Type} {kz0 kz1 kz2 kz3 : α} {b : α} {l : List α} : b ∈ kz0 :: kz1 :: kz2 :: kz3 :: b :: l := .tail _ kfm3
theorem kfs5 {α : Type} {kz0 kz1 kz2 kz3 kz4 b : α} {l : List α} (h : b ∈ l) : b ∈ kz0 :: kz1 :: kz2 :: kz3 :: kz4 :: l := .tail _ (.tail _ (.tail _ (.tail _ (.tail _ h))))
structure SA where
  dp : Nat
  un : Nat
  gd : Option (List Code)
  env : Env
  outer : List Env
  A₀ : Around
  base : Heap
  h₀ : Heap
  L : Addr
  m : Str → Option Value
  mean : ExcName → Option Value
  mg : Str → Option Value
  mb : Str → Option Value
  s : Shared
  Q : Value → Shared → Prop
  E : Value → Shared → Prop
noncomputable def junkA : SA := ⟨0, 0, none, default, [], top 0 0 none default [], {}, {}, 0, fun _ => none, fun _ => none, fun _ => none, fun _ => none, {}, fun _ _ => True, fun _ _ => True⟩
def SpecA (w : World) (n : Nat) (f : Addr) (vs : List Value) (news : Led) (mt : List Addr) (Post : Value → Led → Prop) (a : SA) : Prop :=
  Below a.A₀ a.base a.outer a.h₀ → Fr a.h₀ a.L a.s.heap a.m → (KF w.params).In a.h₀ → News a.h₀ a.L a.s.heap news → Top q LZ a.mean a.mg a.mb a.h₀ → a.env.frame = some a.L → a.env.scope.kind = .function → a.dp + n < recursionLimit → a.un + 8 * n < cLine →
    (∀ v new h' tk', Post v new → Fr a.h₀ a.L h' a.m → News a.h₀ a.L h' new → Keep a.s.heap h' mt → Fresh a.s.heap news new → a.Q v { a.s with heap := h', toks := tk' }) →
    wpAny (model PG w) (top a.dp a.un a.gd a.env a.outer) (call (.ref f) vs) a.Q a.E a.s
theorem Spec.of {w : World} {n : Nat} {f : Addr} {vs : List Value} {news : Led} {mt : List Addr} {Post : Value → Led → Prop} (h : ∀ a : SA, SpecA w n f vs news mt Post a) : Spec w n f vs news mt Post :=
  fun dp un gd env outer A₀ base h₀ L m mean mg mb s Q E => h ⟨dp, un, gd, env, outer, A₀, base, h₀, L, m, mean, mg, mb, s, Q, E⟩
local macro_rules | `(tactic| tb_rel) => `(tactic| with_reducible focus ((repeat (first | apply kfm0 | apply kfm1 | apply kfm2 | apply kfm3 | apply kfm4 | apply kfs5)); done))
local macro_rules | `(tactic| k_memK) => `(tactic| tb_rel)
local macro_rules | `(tactic| k_mem) => `(tactic| first | tb_rel | assumption)
/-! ## a contract at a call of a larger ledger -/
inductive RepF {ρ : Type} (mt : List Addr) (l : Led) (fl : ρ → Led) (S : List (Addr × (ρ → Obj))) : Led → (ρ → Led) → Prop
  | here : RepF mt l fl S l fl
  | off {l₂ : Led} (h : ∀ p ∈ l₂, ∀ e ∈ mt, p.1 ≠ e) : RepF mt l fl S l₂ (fun _ => l₂)
  | chg {d : Addr} {o : Obj} {F : ρ → Obj} {r : Led} {g : ρ → Led} (h : (d, F) ∈ S) (t : RepF mt l fl S r g) : RepF mt l fl S ((d, o) :: r) (fun x => (d, F x) :: g x)
  | keep {p : Addr × Obj} {r : Led} {g : ρ → Led} (h : ∀ e ∈ mt, p.1 ≠ e) (t : RepF mt l fl S r g) : RepF mt l fl S (p :: r) (fun x => p :: g x)
theorem RepF.news {ρ : Type} {mt : List Addr} {l news : Led} {fl : ρ → Led} {S : List (Addr × (ρ → Obj))} {g : ρ → Led} {h₀ h h' : Heap} {L : Addr} (R : RepF mt l fl S news g) (r : ρ) (N : News h₀ L h news) (K : Keep h h' mt)
    (hS : ∀ e ∈ S, News h₀ L h' [(e.1, e.2 r)]) (hl : News h₀ L h' (fl r)) : News h₀ L h' (g r) := by
  induction R with
  | here => exact hl
  | off h => exact News.over N K fun p hp hm => h p hp _ hm rfl
  | chg h t ih =>
    intro p hp
    rcases List.mem_cons.mp hp with rfl | hp
    · exact hS _ h _ (.head _)
    · exact ih (fun q hq => N q (.tail _ hq)) p hp
  | keep h t ih =>
    intro p hp
    rcases List.mem_cons.mp hp with rfl | hp
    · exact ⟨K _ _ (N _ (.head _)).1 fun hm => h _ hm rfl, (N _ (.head _)).2⟩
    · exact ih (fun q hq => N q (.tail _ hq)) p hp
theorem OwnOff.next {l l' news : Led} {FX : List Addr} (h : OwnOff l FX) (hf : ∀ p ∈ l', p.1 ∈ l.map (·.1) ∨ ∀ q ∈ news, q.1 ≠ p.1) (hFX : ∀ b ∈ FX, ∃ o, (b, o) ∈ news) : OwnOff l' FX := fun p hp b hb => by
  rcases hf p hp with a | a
  · obtain ⟨q, hq, e⟩ := List.mem_map.mp a
    rw [← e]; exact h q hq b hb
  · obtain ⟨o, ho⟩ := hFX b hb
    exact Ne.symm (a _ ho)
theorem Spec.use {ρ : Type} {w : World} {n : Nat} {f : Addr} {vs : List Value} {fp : Led} {mt : List Addr} {Post : Value → Led → Prop} (C : Spec w n f vs fp mt Post)
    {dp un : Nat} {gd : Option (List Code)} {env : Env} {outer : List Env} {A₀ : Around} {base h₀ : Heap} {L : Addr} {m : Str → Option Value} {mean : ExcName → Option Value} {mg mb : Str → Option Value} {s : Shared} {Q E : Value → Shared → Prop} {news l : Led} {fl : ρ → Led} {S : List (Addr × (ρ → Obj))} {g : ρ → Led} {FX : List Addr}
    (P : ρ → Value → Prop)
    (B : Below A₀ base outer h₀) (F : Fr h₀ L s.heap m) (X : (KF w.params).In h₀) (N : News h₀ L s.heap news) (T : Top q LZ mean mg mb h₀) (hf : env.frame = some L) (hk : env.scope.kind = .function) (hd : dp + n < recursionLimit) (hu : un + 8 * n < cLine)
    (hsub : ∀ p ∈ fp, p ∈ news) (hl : ∀ p ∈ l, p ∈ news) (R : RepF mt l fl S news g) (ho : OwnOff l FX) (hFX : ∀ b ∈ FX, ∃ o, (b, o) ∈ news)
    (hp : ∀ v new, Post v new → ∃ r, P r v ∧ (∀ e ∈ S, (e.1, e.2 r) ∈ new) ∧ ∀ p ∈ fl r, (p ∈ l ∧ p.1 ∉ mt) ∨ (p ∈ new ∧ (p.1 ∈ l.map (·.1) ∨ p.1 ∉ fp.map (·.1))))
    (h : ∀ r v h' tk', P r v → Fr h₀ L h' m → News h₀ L h' (g r) → OwnOff (fl r) FX → Q v { s with heap := h', toks := tk' }) :
    wpAny (model PG w) (top dp un gd env outer) (call (.ref f) vs) Q E s :=
  C dp un gd env outer A₀ base h₀ L m mean mg mb s Q E B F X (fun p hq => N p (hsub p hq)) T hf hk hd hu (fun v new h' tk' hP F' N' K' Y' => by
    obtain ⟨r, h1, h2, h3⟩ := hp v new hP
    refine h r v h' tk' h1 F' (R.news r N K' (fun e he => ?_) (fun p hp' => ?_)) (Mine.OwnOff.next ho (fun p hp' => ?_) hFX)
    · intro p hp'
      rw [List.mem_singleton] at hp'
      subst hp'
      exact N' _ (h2 e he)
    · rcases h3 p hp' with ⟨a, b⟩ | ⟨a, _⟩
      · exact ⟨K' _ _ (N p (hl p a)).1 b, (N p (hl p a)).2⟩
      · exact N' p a
    · rcases h3 p hp' with ⟨a, _⟩ | ⟨a, c | c⟩
      · exact .inl (List.mem_map.mpr ⟨p, a, rfl⟩)
      · exact .inl c
      · exact .inr (Fresh.apart Y' N a c))
theorem Spec.frame {w : World} {n : Nat} {f : Addr} {vs : List Value} {fp l : Led} {mt : List Addr} {Post : Value → Led → Prop} (C : Spec w n f vs fp mt Post) (hl : ∀ p ∈ l, p.1 ∉ mt) :
    Spec w n f vs (fp ++ l) mt (fun v new => ∃ n0, Post v n0 ∧ (∀ p ∈ n0, p.1 ∉ fp.map (·.1) → ∀ q ∈ l, q.1 ≠ p.1) ∧ new = n0 ++ l) :=
  fun dp un gd env outer A₀ base h₀ L m mean mg mb s Q E B F X N T hf hk hd hu hret =>
    C dp un gd env outer A₀ base h₀ L m mean mg mb s Q E B F X (fun p hq => N p (List.mem_append_left _ hq)) T hf hk hd hu (fun v new h' tk' hP F' N' K' Y' => by
      have Nl : News h₀ L s.heap l := fun p hq => N p (List.mem_append_right _ hq)
      refine hret v _ h' tk' ⟨new, hP, fun p hp hb => Fresh.apart Y' Nl hp hb, rfl⟩ F' (fun p hq => ?_) K' (fun p hq hb => ?_)
      · rcases List.mem_append.mp hq with a | a
        · exact N' p a
        · exact News.over Nl K' hl p a
      · rcases List.mem_append.mp hq with a | a
        · exact Y' p a fun hc => hb (by rw [List.map_append]; exact List.mem_append_left _ hc)
        · exact absurd (List.mem_map.mpr ⟨p, List.mem_append_right _ a, rfl⟩) hb)
theorem Spec.post {w : World} {n n' : Nat} {f : Addr} {vs : List Value} {fp : Led} {mt mt' : List Addr} {Post Post' : Value → Led → Prop} (C : Spec w n f vs fp mt Post) (hn : n ≤ n') (hm : ∀ a ∈ mt, a ∈ mt') (h : ∀ v new, Post v new → Post' v new) : Spec w n' f vs fp mt' Post' :=
  fun dp un gd env outer A₀ base h₀ L m mean mg mb s Q E B F X N T hf hk hd hu hret =>
    C dp un gd env outer A₀ base h₀ L m mean mg mb s Q E B F X N T hf hk (by omega) (by omega) (fun v new h' tk' hP F' N' K' Y' =>
      hret v new h' tk' (h v new hP) F' N' (fun b o e hb => K' b o e fun hc => hb (hm b hc)) Y')

theorem off1_of {I : Addr} : ∀ {l : Led}, (∀ p ∈ l, p.1 ≠ I) → LCg.Off1 I l
  | [], _ => trivial
  | _ :: _, h => ⟨h _ (.head _), off1_of fun p hp => h p (.tail _ hp)⟩
theorem off1_mem {I : Addr} : ∀ {l : Led}, LCg.Off1 I l → ∀ p ∈ l, p.1 ≠ I
  | [], _, _, h => nomatch h
  | _ :: _, x, p, h => by
    rcases List.mem_cons.mp h with rfl | h
    · exact x.1
    · exact off1_mem x.2 p h
/-! ## unlike addresses, by looking up -/
def SD (l : List Nat) : Prop := l.Pairwise (· < ·)
theorem SD.one {a : Nat} : SD [a] := List.pairwise_singleton _ _
theorem SD.more {a b : Nat} {l : List Nat} (h : a < b) (hl : SD (b :: l)) : SD (a :: b :: l) := by
  refine List.pairwise_cons.mpr ⟨fun x hx => ?_, hl⟩
  rcases List.mem_cons.mp hx with rfl | hx
  · exact h
  · exact Nat.lt_trans h ((List.pairwise_cons.mp hl).1 x hx)
inductive Two (a b : Nat) : List Nat → Prop
  | l {r : List Nat} (h : b ∈ r) : Two a b (a :: r)
  | r {r : List Nat} (h : a ∈ r) : Two a b (b :: r)
  | t {c : Nat} {r : List Nat} (h : Two a b r) : Two a b (c :: r)
theorem ne_sd {a b : Nat} {l : List Nat} (h : SD l) (t : Two a b l) : a ≠ b := by
  induction t with
  | l hb => exact Nat.ne_of_lt ((List.pairwise_cons.mp h).1 _ hb)
  | r ha => exact Nat.ne_of_gt ((List.pairwise_cons.mp h).1 _ ha)
  | t _ ih => exact ih (List.pairwise_cons.mp h).2
section
variable {l : Led} {D I C a : Addr} {o : Obj}
theorem lt_ne (h : ∀ p ∈ l, p.1 < D) (hm : (a, o) ∈ l) : @Ne Nat a D := Nat.ne_of_lt (h _ hm)
theorem lt_ne1 (h : ∀ p ∈ l, p.1 < D) (hm : (a, o) ∈ l) : @Ne Nat a (D + 1) := Nat.ne_of_lt (Nat.lt_succ_of_lt (h _ hm))
theorem lt_ne2 (h : ∀ p ∈ l, p.1 < D) (hm : (a, o) ∈ l) : @Ne Nat a (D + 1 + 1) := Nat.ne_of_lt (Nat.lt_succ_of_lt (Nat.lt_succ_of_lt (h _ hm)))
theorem lt_ne3 (h : ∀ p ∈ l, p.1 < D) (hm : (a, o) ∈ l) : @Ne Nat a (D + 1 + 1 + 1) := Nat.ne_of_lt (Nat.lt_succ_of_lt (Nat.lt_succ_of_lt (Nat.lt_succ_of_lt (h _ hm))))
theorem off1_at (h : LCg.Off1 D l) (hm : (a, o) ∈ l) : @Ne Nat a D := off1_mem h _ hm
theorem off3_at1 (h : LCg.Off3 I C D l) (hm : (a, o) ∈ l) : @Ne Nat a I := (h.mem _ hm).1
theorem off3_at2 (h : LCg.Off3 I C D l) (hm : (a, o) ∈ l) : @Ne Nat a C := (h.mem _ hm).2.1
theorem off3_at3 (h : LCg.Off3 I C D l) (hm : (a, o) ∈ l) : @Ne Nat a D := (h.mem _ hm).2.2
theorem ne3_1 (h : (@Ne Nat I C) ∧ (@Ne Nat I D) ∧ (@Ne Nat C D)) : @Ne Nat I C := h.1
theorem ne3_2 (h : (@Ne Nat I C) ∧ (@Ne Nat I D) ∧ (@Ne Nat C D)) : @Ne Nat I D := h.2.1
theorem ne3_3 (h : (@Ne Nat I C) ∧ (@Ne Nat I D) ∧ (@Ne Nat C D)) : @Ne Nat C D := h.2.2
theorem lt_lt_ne {X : Addr} (h2 : @LT.lt Nat _ D X) (h : ∀ p ∈ l, p.1 < D) (hm : (a, o) ∈ l) : @Ne Nat a X := Nat.ne_of_lt (Nat.lt_trans (h _ hm) h2)
theorem at_lt (h : ∀ p ∈ l, p.1 < D) (hm : (a, o) ∈ l) : @LT.lt Nat _ a D := h _ hm
theorem at_lt_lt {X : Addr} (h2 : @LT.lt Nat _ D X) (h : ∀ p ∈ l, p.1 < D) (hm : (a, o) ∈ l) : @LT.lt Nat _ a X := Nat.lt_trans (h _ hm) h2
theorem neS {a b : Nat} (h : @Ne Nat b a) : @Ne Nat a b := Ne.symm h
end
def Hold (P : Prop) : Prop := P
theorem hold {P : Prop} (h : Hold P) : P := h
theorem OwnOff.sub {l : Led} {A B : List Addr} (h : OwnOff l B) (s : ∀ a ∈ A, a ∈ B) : OwnOff l A := fun p hp b hb => h p hp b (s b hb)
theorem off_of {l : Led} {FX mt : List Addr} (h : OwnOff l FX) (s : ∀ a ∈ mt, a ∈ FX) : ∀ p ∈ l, ∀ e ∈ mt, p.1 ≠ e := OwnOff.sub h s
theorem own_ne {l : Led} {FX : List Addr} {a b : Addr} {o : Obj} (hm : (a, o) ∈ l) (h : OwnOff l FX) (hb : b ∈ FX) : @Ne Nat b a := Ne.symm (h _ hm b hb)
theorem ne_all {l : Led} {D a : Addr} {o : Obj} (h : ∀ p ∈ l, p.1 ≠ D) (hm : (a, o) ∈ l) : @Ne Nat a D := h _ hm
theorem mt {α : Type} {a b : α} {l : List α} (h : a ∈ l) : a ∈ b :: l := List.Mem.tail _ h
theorem lt_all {l news : Led} {D : Addr} (h : ∀ p ∈ news, p.1 < D) (hs : ∀ p ∈ l, p ∈ news) : ∀ p ∈ l, p.1 ≠ D := fun p hp => Nat.ne_of_lt (h p (hs p hp))
theorem lt_all1 {l news : Led} {D : Addr} (h : ∀ p ∈ news, p.1 < D) (hs : ∀ p ∈ l, p ∈ news) : ∀ p ∈ l, p.1 ≠ D + 1 := fun p hp => Nat.ne_of_lt (Nat.lt_succ_of_lt (h p (hs p hp)))
theorem ne_tail {l news : Led} {D : Addr} (h : ∀ p ∈ news, p.1 ≠ D) (hs : ∀ p ∈ l, p ∈ news) : ∀ p ∈ l, p.1 ≠ D := fun p hp => h p (hs p hp)
theorem kft0 {a b : Nat} {l : List Nat} (h : b ∈ l) : Two a b (a :: l) := .l h
theorem kfr0 {a b : Nat} {l : List Nat} (h : a ∈ l) : Two a b (b :: l) := .r h
theorem kft1 {kz0 : Nat} {a b : Nat} {l : List Nat} (h : b ∈ l) : Two a b (kz0 :: a :: l) := .t (kft0 h)
theorem kfr1 {kz0 : Nat} {a b : Nat} {l : List Nat} (h : a ∈ l) : Two a b (kz0 :: b :: l) := .t (kfr0 h)
theorem kft2 {kz0 kz1 : Nat} {a b : Nat} {l : List Nat} (h : b ∈ l) : Two a b (kz0 :: kz1 :: a :: l) := .t (kft1 h)
theorem kfr2 {kz0 kz1 : Nat} {a b : Nat} {l : List Nat} (h : a ∈ l) : Two a b (kz0 :: kz1 :: b :: l) := .t (kfr1 h)
theorem kft3 {kz0 kz1 kz2 : Nat} {a b : Nat} {l : List Nat} (h : b ∈ l) : Two a b (kz0 :: kz1 :: kz2 :: a :: l) := .t (kft2 h)
theorem kfr3 {kz0 kz1 kz2 : Nat} {a b : Nat} {l : List Nat} (h : a ∈ l) : Two a b (kz0 :: kz1 :: kz2 :: b :: l) := .t (kfr2 h)
theorem kfs4 {kz0 kz1 kz2 kz3 a b : Nat} {l : List Nat} (h : Two a b l) : Two a b (kz0 :: kz1 :: kz2 :: kz3 :: l) := .t (.t (.t (.t h)))
theorem RepF.k1 {ρ : Type} {x a : Addr} {o : Obj} {l : Led} {fl : ρ → Led} {S : List (Addr × (ρ → Obj))} {r : Led} {g : ρ → Led} (h1 : @Ne Nat a x) (t : RepF [x] l fl S r g) : RepF [x] l fl S ((a, o) :: r) (fun u => (a, o) :: g u) := .keep (fac h1 (List.forall_mem_nil _)) t
theorem RepF.k2 {ρ : Type} {x y a : Addr} {o : Obj} {l : Led} {fl : ρ → Led} {S : List (Addr × (ρ → Obj))} {r : Led} {g : ρ → Led} (h1 : @Ne Nat a x) (h2 : @Ne Nat a y) (t : RepF [x, y] l fl S r g) : RepF [x, y] l fl S ((a, o) :: r) (fun u => (a, o) :: g u) := .keep (fac h1 (fac h2 (List.forall_mem_nil _))) t
theorem RepF.k3 {ρ : Type} {x y z a : Addr} {o : Obj} {l : Led} {fl : ρ → Led} {S : List (Addr × (ρ → Obj))} {r : Led} {g : ρ → Led} (h1 : @Ne Nat a x) (h2 : @Ne Nat a y) (h3 : @Ne Nat a z) (t : RepF [x, y, z] l fl S r g) : RepF [x, y, z] l fl S ((a, o) :: r) (fun u => (a, o) :: g u) := .keep (fac h1 (fac h2 (fac h3 (List.forall_mem_nil _)))) t
inductive Fst (a b : Nat) : List Nat → Prop
  | l {r : List Nat} (h : b ∈ r) : Fst a b (a :: r)
  | t {c : Nat} {r : List Nat} (h : Fst a b r) : Fst a b (c :: r)
theorem lt_sd {a b : Nat} {l : List Nat} (h : SD l) (t : Fst a b l) : @LT.lt Nat _ a b := by
  induction t with
  | l hb => exact (List.pairwise_cons.mp h).1 _ hb
  | t _ ih => exact ih (List.pairwise_cons.mp h).2
local macro_rules | `(tactic| k_room) => `(tactic| first | exact room1 (by assumption) rfl | exact room0 (by assumption) | exact room (by assumption) rfl | exact room2 (by assumption) rfl | (simp only [depth_mark, depth_under_make, depth_under_kw, depth_in1, depth_deeper, depth_caller]; (try dsimp only [top]); omega))
local macro_rules | `(tactic| k_units) => `(tactic| first | exact unit1 (by assumption) rfl | exact unit0 (by assumption) rfl | exact unit2 (by assumption) rfl | (simp only [units_under_make, units_in1, units_deeper, Around.mark_units, units_caller]; (try dsimp only [top]); omega))
local macro_rules | `(tactic| k_get) => `(tactic| assumption)
local macro_rules | `(tactic| walk_at "pyIter ref") => `(tactic| refine hold ?_)
local macro_rules | `(tactic| tb_start) => `(tactic| first
  | ((with_reducible show (_, _) ∈ _); k_mem)
  | ((with_reducible show @Ne _ _ _); k_ne)
  | with_reducible assumption
  | ((with_reducible show @LT.lt Nat _ _ _); first | k_room | k_units | omega)
  | k_updF
  | k_get
  | ((with_reducible first | show Frag.lookup _ _ = _ | show codeIn _ _ _ = _); k_is)
  | exact rfl
  | assumption
  | (intro p' hp'; (repeat (with_reducible apply kfs5)); (repeat (with_reducible apply mt)); exact hp')
  | exact fun _ h => h
  | exact BindsTo.of_eq rfl
  | exact locs' rfl
  | ((with_reducible first | show (_ : Nat) ≤ _ | show (_ : Int) ≤ _ | show (_ : Int) < _); omega)
  | ((repeat' (first | ((with_reducible show _ ∈ _); first | tb_rel | k_mem) | (with_reducible refine' fax ?_ ?_) | (with_reducible refine fac ?_ ?_) | exact List.forall_mem_nil _)); done)
  | decide)
local macro_rules | `(tactic| walk_at "kz2") => `(tactic| ((all_goals first | ((fail_if_success (with_reducible show ∀ x, @Membership.mem _ (List _) _ _ x → _)); with_reducible intro _ _ _) | tb_start | intro _); intros))
local macro_rules | `(tactic| k_enter) => `(tactic| (k_dflt (first | ((with_reducible show codeAny _ _ (Code.call _ (Args.mk [_] _)) _ _); apply code_defT1) | ((with_reducible show codeAny _ _ (Code.call _ (Args.mk [_, _] _)) _ _); apply code_defT2) | ((with_reducible show codeAny _ _ (Code.call _ (Args.mk [_, _, _] _)) _ _); apply code_defT3) | ((with_reducible show codeAny _ _ (Code.call _ (Args.mk [_, _, _, _] _)) _ _); apply code_defT4) | ((with_reducible show codeAny _ _ (Code.call _ (Args.mk [_, _, _, _, _] _)) _ _); apply code_defT5) | ((with_reducible show codeAny _ _ (Code.call _ (Args.mk [_, _, _, _, _, _] _)) _ _); apply code_defT6)); walk_at "kz2"; (rename Below _ _ _ _ => B'); (try dsimp only); (try k_lift B'); (try k_fold)))
local macro_rules | `(tactic| walk_at "kq1") => `(tactic| (intro D' h' F' N' l1; (have l1r := l1); (try k_lt l1)))
local macro_rules | `(tactic| walk_at "kq2") => `(tactic| (intro t' h' o' F' N' hd' hsk'; (try dsimp only at N')))
local macro_rules | `(tactic| walk_at "kq3") => `(tactic| (intro h' o' F' N' hd'; (try dsimp only at N')))
section Draw
/-! the arithmetic of a draw: bounds alone are kept -/
section
variable {prog : Program} {w : World} {A : Around} {E : Value → Shared → Prop} {s : Shared} {a b : Int} {t u : Tok}
theorem mod_any {Q : Value → Shared → Prop} (hb : 0 < b) (h : ∀ r, 0 ≤ r → r < b → Q (.int r s.toks) { s with toks := s.toks + 1 }) : wpAny (model prog w) A (binaryOp .Mod (.int a t) (.int b u)) Q E s :=
  mod_int' (Int.ne_of_gt hb) (h _ (fmod_lo a hb) (fmod_hi a hb))
theorem mulOk_small {a b : Int} (h0 : 0 ≤ a) (h1 : a < 18446744073709551616) : IntMulOk a b := IntMulOk.of_left (by
  unfold Builtin.Int.intBits
  have : a.natAbs < 2 ^ 64 := by omega
  by_cases h : a.natAbs = 0
  · simp_all
  · have := (Nat.log2_lt h).mpr this
    split <;> omega)
theorem mul_any {Q : Value → Shared → Prop} (h0 : 0 ≤ a) (h1 : a < 18446744073709551616) (h : Q (.int (a * b) s.toks) { s with toks := s.toks + 1 }) : wpAny (model prog w) A (binaryOp .Mult (.int a t) (.int b u)) Q E s :=
  PyProof.Rows.mul_int h (mulOk_small h0 h1)
theorem div_any {Q : Value → Shared → Prop} (h0 : 0 ≤ a) (hb : 0 < b) (hp : b.natAbs.log2 < 9000) (h : ∀ r, 0 ≤ r → r ≤ a → Q (.int r s.toks) { s with toks := s.toks + 1 }) : wpAny (model prog w) A (binaryOp .FloorDiv (.int a t) (.int b u)) Q E s :=
  floordiv_int (Int.ne_of_gt hb) (h _ (by rw [Int.fdiv_eq_ediv_of_nonneg _ (Int.le_of_lt hb)]; exact Int.ediv_nonneg h0 (Int.le_of_lt hb)) (by rw [Int.fdiv_eq_ediv_of_nonneg _ (Int.le_of_lt hb)]; exact Int.ediv_le_self _ h0)) (Or.inl (PyProof.noPylong_of_log2 hp))
end

set_option maxHeartbeats 1000000 in
theorem draw_spec {w : World} {dk ce : Addr} {k many : Int} {t u : Tok} {n nc : Nat} {ws : List Value} {ns : List Int}
    (hi : IntsAre ws ns) (hlo : 1 ≤ ns.length) (hhi : ns.length ≤ 41) (hb : ∀ x ∈ ns, 0 ≤ x ∧ x ≤ 1000003) (hk0 : 0 ≤ k) (hk1 : k ≤ 100000) (hm0 : 1 ≤ many) (hm1 : many ≤ 1000) (hne : @Ne Nat dk ce) :
    Spec w 2 984 [.ref dk, .int many u] [(dk, W.listOf #[.ref ce, .int k t] n), (ce, W.listOf ws.toArray nc)] [dk]
      (fun v new => ∃ r t' t'' n', v = .int r t' ∧ 0 ≤ r ∧ r < many ∧ new = [(dk, W.listOf #[.ref ce, .int (k + 1) t''] n'), (ce, W.listOf ws.toArray nc)]) := by
  w_on
  intro dp un gd env outer A₀ base h₀ L m mean mg mb s Q E hB hF hK hN hT hfr hkd hd hu hret
  refine wpAny_call ?_
  k_dflt k_enter
  w_nolog (repeat' (first | (k_unfold; (try dsimp only)) | (k_end; first | kc_close | wrow_close) | ((with_reducible show wpAny _ _ (binaryOp _ _ _) _ _ _); (try dsimp only); first | ((with_reducible show wpAny _ _ (binaryOp Operator.Mod (Value.int _ _) (Value.int _ _)) _ _ _); (k_dflt (refine' mod_any ?kb ?_; (case kb => first | decide | omega); k_whole); intro _ _ _; (try dsimp only))) | ((with_reducible show wpAny _ _ (binaryOp Operator.Mult (Value.int _ _) (Value.int _ _)) _ _ _); (k_dflt (refine' mul_any ?ka ?kb ?_; (case ka => omega); (case kb => omega); k_whole); (try dsimp only))) | ((with_reducible show wpAny _ _ (binaryOp Operator.FloorDiv (Value.int _ _) (Value.int _ _)) _ _ _); (k_dflt (refine' div_any ?ka ?kb ?kc ?_; (case ka => omega); (case kb => decide); (case kc => decide +kernel); k_whole); intro _ _ _; (try dsimp only)))) | walk1 | (dsimp only; walk1) | (leave1; try dsimp only)))
  all_goals (refine' hret _ _ _ _ ?zp ?zf ?zn ?zk ?zr; (case zf => k_asm); (case zn => k_asm); (case zk => refine keep_mut (by k_asm) (by k_asm) hN (by k_asm) ?_; repeat' (first | (with_reducible refine fac ?_ ?_) | (with_reducible exact List.forall_mem_nil _) | exact Or.inr (by k_mem) | exact Or.inl (List.Mem.head _) | exact Or.inl (.tail _ (.head _)) | exact Or.inl (.tail _ (.tail _ (.head _)))))); (case zr => exact fresh_of (by k_asm) (by k_asm)); (case zp => exact ⟨_, _, _, _, rfl, by assumption, by assumption, rfl⟩)
end Draw


noncomputable abbrev tabObj (w : World) (rl bd : Addr) (ta tb : Tok) (n : Nat) : Obj := dictOf [⟨PyData.keyHash w.params (.ofString "rows"), .str (.ofString "rows") ta, .ref rl⟩, ⟨PyData.keyHash w.params (.ofString "by_text"), .str (.ofString "by_text") tb, .ref bd⟩] n
noncomputable abbrev symObj (w : World) (i : Int) (x : Str) (ta tb tc td : Tok) (n : Nat) : Obj := dictOf [⟨PyData.keyHash w.params (.ofString "number"), .str (.ofString "number") ta, .int i tb⟩, ⟨PyData.keyHash w.params (.ofString "text"), .str (.ofString "text") tc, .str x td⟩] n

set_option maxHeartbeats 2000000 in
theorem sym_old {w : World} {tab dt rl bd e : Addr} {ta tb t : Tok} {n nl : Nat} {its : Array Value} {o : Obj} {kvs : List (Str × Value)} {x : Str}
    (hd : o.IsDictOf (SK w) kvs) (hv : valueAt kvs x = some (.ref e)) (lo : (bd == sysModules) = false) :
    Spec w 6 90 [.ref tab, .str x t] [(tab, instObj 128 dt), (dt, tabObj w rl bd ta tb n), (rl, W.listOf its nl), (bd, o)] []
      (fun v new => v = .ref e ∧ new = [(tab, instObj 128 dt), (dt, tabObj w rl bd ta tb n), (rl, W.listOf its nl), (bd, o)]) := by
  w_on
  intro dp un gd env outer A₀ base h₀ L m mean mg mb s Q E hB hF hK hN hT hfr hkd hdd hu hret
  refine wpAny_call ?_
  k_dflt k_enter
  w_nolog (repeat' (first | (k_unfold; (try dsimp only)) | (k_end; first | kc_close | wrow_close) | ((with_reducible show wpAny _ _ (call _ _) _ _ _); (try dsimp only); first | ((with_reducible show wpAny _ _ (call (Value.builtin "dict.get") _) _ _ _); k_dflt (first | (refine kdg_get2 (knd := PySem.strKind _ _) (by k_asm) (by k_mem) (by k_asm) (by k_asm) (strKind_is _ _ _ _) _ (by assumption) ?_) | (refine kdg_get2 (knd := intKind _ _) (by k_asm) (by k_mem) (by k_asm) (by k_asm) (intKind_is _ _ _ _) _ (by assumption) ?_)); (try dsimp only [Option.getD]))) | walk1 | (dsimp only; walk1) | (leave1; try dsimp only)))
  all_goals (refine' hret _ _ _ _ ?zp ?zf ?zn ?zk ?zr; (case zf => k_asm); (case zn => k_asm); (case zk => refine keep_mut (by k_asm) (by k_asm) hN (by k_asm) ?_; repeat' (first | (with_reducible refine fac ?_ ?_) | (with_reducible exact List.forall_mem_nil _) | exact Or.inr (by k_mem) | exact Or.inl (List.Mem.head _) | exact Or.inl (.tail _ (.head _)) | exact Or.inl (.tail _ (.tail _ (.head _)))))); (case zr => exact fresh_of (by k_asm) (by k_asm)); (case zp => exact ⟨rfl, rfl⟩)

set_option maxHeartbeats 2000000 in
theorem sym_new {w : World} {tab dt rl bd : Addr} {ta tb t : Tok} {n nl : Nat} {its : Array Value} {o : Obj} {kvs : List (Str × Value)} {x : Str}
    (hd : o.IsDictOf (SK w) kvs) (hv : valueAt kvs x = none) (lo : (bd == sysModules) = false) (hsz : its.size ≤ 1000) (hkz : kvs.length ≤ 1000) (hne : @Ne Nat rl bd) (hne1 : @Ne Nat rl tab) (hne2 : @Ne Nat rl dt) (hne3 : @Ne Nat bd tab) (hne4 : @Ne Nat bd dt) :
    Spec w 6 90 [.ref tab, .str x t] [(tab, instObj 128 dt), (dt, tabObj w rl bd ta tb n), (rl, W.listOf its nl), (bd, o)] [rl, bd]
      (fun v new => ∃ ex ed o' a b c d ne nl', v = .ref ex ∧ (∀ b ∈ [tab, dt, rl, bd], @Ne Nat b ex) ∧ (∀ b ∈ [tab, dt, rl, bd], @Ne Nat b ed) ∧ o'.IsDictOf (SK w) (stored kvs x (.ref ex)) ∧ new = [(ex, instObj 65 ed), (ed, symObj w its.size x a b c d ne), (tab, instObj 128 dt), (dt, tabObj w rl bd ta tb n), (rl, W.listOf (its.push (.ref ex)) nl'), (bd, o')]) := by
  w_on
  intro dp un gd env outer A₀ base h₀ L m mean mg mb s Q E hB hF hK hN hT hfr hkd hdd hu hret
  refine wpAny_call ?_
  k_dflt k_enter
  w_nolog (repeat' (first | (k_unfold; (try dsimp only)) | (k_end; first | kc_close | wrow_close) | ((with_reducible show wpAny _ _ (call _ _) _ _ _); (try dsimp only); first | ((with_reducible show wpAny _ _ (call (Value.builtin "dict.get") _) _ _ _); k_dflt (first | (refine kdg_get2 (knd := PySem.strKind _ _) (by k_asm) (by k_mem) (by k_asm) (by k_asm) (strKind_is _ _ _ _) _ (by assumption) ?_) | (refine kdg_get2 (knd := intKind _ _) (by k_asm) (by k_mem) (by k_asm) (by k_asm) (intKind_is _ _ _ _) _ (by assumption) ?_)); (try dsimp only [Option.getD])) | ((with_reducible show wpAny _ _ (call (Value.builtin "len") [Value.ref _]) _ _ _); k_dflt (refine' len_M ?k1 ?k2 ?k3 ?_; (case k1 => k_asm); (case k2 => k_mem); (case k3 => first | assumption | (simp only [Array.size_push]; omega)); k_whole); (try dsimp only)) | ((try dsimp only [List.nil_append, List.cons_append]); (with_reducible show wpAny _ _ (call (Value.builtin "list.append") [Value.ref _, _]) _ _ _); k_dflt (refine' append_M ?k1 ?k2 ?k3 ?z ?_; (case k1 => k_asm); (case k2 => k_asm); (case k3 => k_upd); (case z => first | assumption | omega); k_whole); intros; (try k_sweep))) | ((with_reducible show wpAny _ _ (setItem _ _ _) _ _ _); (try dsimp only); first | ((with_reducible show wpAny _ _ (setItem (Value.ref _) _ _) _ _ _); k_dflt (first | (refine' kda_set (knd := PySem.strKind _ _) ?k1 ?k2 ?k3 ?k4 (strKind_is _ _ _ _) ?k5 ?_; (case k1 => k_asm); (case k2 => k_asm); (case k3 => k_updF); (case k4 => k_asm); (case k5 => exact small_line (by assumption)); k_whole) | (refine' kda_set (knd := intKind _ _) ?k1 ?k2 ?k3 ?k4 (intKind_is _ _ _ _) ?k5 ?_; (case k1 => k_asm); (case k2 => k_asm); (case k3 => k_updF); (case k4 => k_asm); (case k5 => exact small_line (by assumption)); k_whole)); walk_at "kq3"; (try k_sweep))) | walk1 | (dsimp only; walk1) | (leave1; try dsimp only)))
  all_goals (refine' hret _ _ _ _ ?zp ?zf ?zn ?zk ?zr; (case zf => k_asm); (case zn => k_asm); (case zk => refine keep_mut (by k_asm) (by k_asm) hN (by k_asm) ?_; repeat' (first | (with_reducible refine fac ?_ ?_) | (with_reducible exact List.forall_mem_nil _) | exact Or.inr (by k_mem) | exact Or.inl (List.Mem.head _) | exact Or.inl (.tail _ (.head _)) | exact Or.inl (.tail _ (.tail _ (.head _)))))); (case zr => exact fresh_of (by k_asm) (by k_asm)); (case zp => exact ⟨_, _, _, _, _, _, _, _, _, rfl, by (repeat' (first | (with_reducible refine fac ?_ ?_) | (with_reducible exact List.forall_mem_nil _) | omega)), by (repeat' (first | (with_reducible refine fac ?_ ?_) | (with_reducible exact List.forall_mem_nil _) | omega)), by assumption, rfl⟩)

/-! ## the table of symbols, as a tail of the ledger -/
noncomputable def SIX : List Str := [.ofString "a", .ofString "b", .ofString "a1", .ofString "car", .ofString "", .ofString "cdr"]
theorem nodup_le {α : Type} [DecidableEq α] : ∀ {l s : List α}, l.Nodup → (∀ x ∈ l, x ∈ s) → l.length ≤ s.length
  | [], _, _, _ => Nat.zero_le _
  | a :: l, s, hn, hs => by
    have ha := hs a (.head _)
    have h1 : ∀ x ∈ l, x ∈ s.erase a := fun x hx => (List.mem_erase_of_ne (fun (e : x = a) => (List.nodup_cons.mp hn).1 (by rw [← e]; exact hx))).mpr (hs x (.tail _ hx))
    have h2 := nodup_le (List.nodup_cons.mp hn).2 h1
    rw [List.length_erase_of_mem ha] at h2
    have := List.length_pos_of_mem ha
    simp only [List.length_cons]; omega
theorem valueAt_snoc_same {K : Type} [DecidableEq K] {kvs : List (K × Value)} {k : K} {v : Value} (h : valueAt kvs k = none) : valueAt (kvs ++ [(k, v)]) k = some v := by
  unfold valueAt at h ⊢
  rw [List.find?_append]
  have : kvs.find? (fun kv => kv.1 = k) = none := by simpa using h
  rw [this]; simp
theorem valueAt_snoc_ne {K : Type} [DecidableEq K] {kvs : List (K × Value)} {k j : K} {v : Value} (h : j ≠ k) : valueAt (kvs ++ [(k, v)]) j = valueAt kvs j := by
  unfold valueAt
  rw [List.find?_append]
  have : ([(k, v)] : List (K × Value)).find? (fun kv => kv.1 = j) = none := by simp [Ne.symm h]
  rw [this]; simp

structure SymT (w : World) (T : List Str) (its : Array Value) (o : Obj) (l : Led) : Prop where
  nd : T.Nodup
  six : ∀ x ∈ T, x ∈ SIX
  size : its.size = T.length
  row : ∀ (i : Nat) (x : Str), T[i]? = some x → ∃ a d ta tb tc td n, its[i]? = some (Value.ref a) ∧ (a, instObj 65 d) ∈ l ∧ (d, symObj w i x ta tb tc td n) ∈ l
  dict : ∃ kvs, o.IsDictOf (SK w) kvs ∧ kvs.length ≤ T.length ∧ (∀ x, x ∉ T → valueAt kvs x = none) ∧ ∀ (i : Nat) (x : Str), T[i]? = some x → ∃ a, its[i]? = some (Value.ref a) ∧ valueAt kvs x = some (Value.ref a)
theorem SymT.le {w : World} {T : List Str} {its : Array Value} {o : Obj} {l : Led} (h : SymT w T its o l) : T.length ≤ 6 := nodup_le h.nd h.six
/-- a symbol more -/
theorem SymT.push {w : World} {T : List Str} {its : Array Value} {o o' : Obj} {l : Led} {x : Str} {ex ed : Addr} {a b c d : Tok} {ne : Nat} {kvs : List (Str × Value)} (h : SymT w T its o l) (hx : x ∉ T) (h6 : x ∈ SIX)
    (h2 : kvs.length ≤ T.length) (h3 : ∀ x, x ∉ T → valueAt kvs x = none) (h4 : ∀ (i : Nat) (x : Str), T[i]? = some x → ∃ a, its[i]? = some (Value.ref a) ∧ valueAt kvs x = some (Value.ref a)) (hd' : o'.IsDictOf (SK w) (stored kvs x (Value.ref ex))) :
    SymT w (T ++ [x]) (its.push (Value.ref ex)) o' ((ex, instObj 65 ed) :: (ed, symObj w its.size x a b c d ne) :: l) := by
  refine ⟨?_, ?_, ?_, ?_, ?_⟩
  · refine List.nodup_append.mpr ⟨h.nd, by simp, fun a ha b hb => ?_⟩
    rw [List.mem_singleton] at hb; subst hb
    exact fun e => hx (e ▸ ha)
  · intro y hy
    rcases List.mem_append.mp hy with hy | hy
    · exact h.six y hy
    · rw [List.mem_singleton] at hy; subst hy; exact h6
  · simp [h.size]
  · intro i y hy
    by_cases hi : i < T.length
    · rw [List.getElem?_append_left hi] at hy
      obtain ⟨a1, d1, t1, t2, t3, t4, n1, e1, e2, e3⟩ := h.row i y hy
      refine ⟨a1, d1, t1, t2, t3, t4, n1, ?_, .tail _ (.tail _ e2), .tail _ (.tail _ e3)⟩
      rw [Array.getElem?_push, if_neg (by rw [h.size]; omega)]; exact e1
    · have e : i = T.length := by
        have := (List.getElem?_eq_some_iff.mp hy).1
        simp at this; omega
      subst e
      have : y = x := by simpa using hy.symm
      subst this
      refine ⟨ex, ed, a, b, c, d, ne, ?_, .head _, ?_⟩
      · rw [← h.size]; simp
      · rw [← h.size]; exact .tail _ (.head _)
  · have hv := h3 x hx
    rw [stored_absent hv] at hd'
    refine ⟨_, hd', by simp; omega, ?_, ?_⟩
    · intro y hy
      simp only [List.mem_append, List.mem_singleton, not_or] at hy
      rw [valueAt_snoc_ne hy.2]; exact h3 y hy.1
    · intro i y hy
      by_cases hi : i < T.length
      · rw [List.getElem?_append_left hi] at hy
        obtain ⟨a1, e1, e2⟩ := h4 i y hy
        refine ⟨a1, ?_, ?_⟩
        · rw [Array.getElem?_push, if_neg (by rw [h.size]; omega)]; exact e1
        · rw [valueAt_snoc_ne (fun e : y = x => hx (by rw [← e]; exact List.mem_of_getElem? hy))]; exact e2
      · have e : i = T.length := by
          have := (List.getElem?_eq_some_iff.mp hy).1
          simp at this; omega
        subst e
        have : y = x := by simpa using hy.symm
        subst this
        exact ⟨ex, by rw [← h.size]; simp, valueAt_snoc_same hv⟩

structure SymR where
  T : List Str
  its : Array Value
  nl : Nat
  o : Obj
  l : Led
  i : Nat
  a : Addr
  d : Addr
  q1 : Tok
  q2 : Tok
  q3 : Tok
  q4 : Tok
  q5 : Nat
/-- what a step that may add symbols leaves -/
structure SymP (w : World) (T : List Str) (l : Led) (FX : List Addr) (rl bd : Addr) (new : Led) (r : SymR) : Prop where
  t : SymT w r.T r.its r.o r.l
  pre : T <+: r.T
  sub : ∀ p ∈ l, p ∈ r.l
  off : OwnOff r.l FX
  now : ∀ p ∈ r.l, p ∈ new
  rows : (rl, W.listOf r.its r.nl) ∈ new
  texts : (bd, r.o) ∈ new
structure SymG (w : World) (x : Str) (r : SymR) : Prop where
  at_ : r.T[r.i]? = some x
  inst : (r.a, instObj 65 r.d) ∈ r.l
  dict : (r.d, symObj w (r.i : Nat) x r.q1 r.q2 r.q3 r.q4 r.q5) ∈ r.l

set_option maxHeartbeats 1000000 in
theorem tsym_spec {w : World} {tab dt rl bd : Addr} {ta tb t : Tok} {n nl : Nat} {its : Array Value} {o : Obj} {T : List Str} {l : Led} {x : Str}
    (hT : SymT w T its o l) (hx : x ∈ SIX) (lo : (bd == sysModules) = false) (hl : OwnOff l [tab, dt, rl, bd]) (hne : @Ne Nat rl bd) (hne1 : @Ne Nat rl tab) (hne2 : @Ne Nat rl dt) (hne3 : @Ne Nat bd tab) (hne4 : @Ne Nat bd dt) :
    Spec w 6 90 [.ref tab, .str x t] ([(tab, instObj 128 dt), (dt, tabObj w rl bd ta tb n), (rl, W.listOf its nl), (bd, o)] ++ l) [rl, bd]
      (fun v new => ∃ r : SymR, v = .ref r.a ∧ SymP w T l [tab, dt, rl, bd] rl bd new r ∧ SymG w x r) := by
  have hm : ∀ p ∈ l, p.1 ∉ [rl, bd] := fun p hp hc => hl p hp _ (.tail _ (.tail _ hc)) rfl
  obtain ⟨kvs, h1, h2, h3, h4⟩ := hT.dict
  by_cases hxT : x ∈ T
  · obtain ⟨i, hi⟩ := List.getElem?_of_mem hxT
    obtain ⟨a, d, q1, q2, q3, q4, q5, e1, e2, e3⟩ := hT.row i x hi
    obtain ⟨a', e4, e5⟩ := h4 i x hi
    rw [e1] at e4; cases e4
    refine ((sym_old (t := t) h1 e5 lo).frame (mt := []) (fun p hp hc => nomatch hc)).post (Nat.le_refl _) (fun a h => nomatch h) ?_
    rintro v new ⟨n0, ⟨rfl, rfl⟩, _, rfl⟩
    exact ⟨⟨T, its, nl, o, l, i, a, d, q1, q2, q3, q4, q5⟩, rfl, ⟨hT, List.prefix_rfl, fun p hp => hp, hl, fun p hp => List.mem_append_right _ hp, List.mem_append_left _ (by simp), List.mem_append_left _ (by simp)⟩, ⟨hi, e2, e3⟩⟩
  · have h6 := hT.le
    refine ((sym_new (t := t) h1 (h3 x hxT) lo (by rw [hT.size]; omega) (by omega) hne hne1 hne2 hne3 hne4).frame hm).post (Nat.le_refl _) (fun a h => h) ?_
    rintro v new ⟨n0, ⟨ex, ed, o', a, b, c, d, ne, nl', rfl, o1, o2, hd', rfl⟩, hf, rfl⟩
    refine ⟨⟨T ++ [x], its.push (.ref ex), nl', o', (ex, instObj 65 ed) :: (ed, symObj w its.size x a b c d ne) :: l, T.length, ex, ed, a, b, c, d, ne⟩, rfl,
      ⟨hT.push hxT hx h2 h3 h4 hd', List.prefix_append _ _, fun p hp => .tail _ (.tail _ hp), ?_, ?_, List.mem_append_left _ (by simp), List.mem_append_left _ (by simp)⟩, ⟨by simp, .head _, ?_⟩⟩
    · intro p hp
      rcases List.mem_cons.mp hp with rfl | hp
      · exact fun b hb => Ne.symm (o1 b hb)
      · rcases List.mem_cons.mp hp with rfl | hp
        · exact fun b hb => Ne.symm (o2 b hb)
        · exact hl p hp
    · intro p hp
      rcases List.mem_cons.mp hp with rfl | hp
      · exact List.mem_append_left _ (by simp)
      · rcases List.mem_cons.mp hp with rfl | hp
        · exact List.mem_append_left _ (by simp)
        · exact List.mem_append_right _ hp
    · rw [hT.size]; exact .tail _ (.head _)

/-! ### such a contract at a call -/
abbrev SymS (rl bd : Addr) : List (Addr × (SymR → Obj)) := [(rl, fun r => W.listOf r.its r.nl), (bd, fun r => r.o)]
/-- a contract that may add symbols, at a call of a caller with the ledger news -/
theorem sym_use {w : World} {n : Nat} {f rl bd : Addr} {vs : List Value} {T : List Str} {fix l l0 : Led} {FX FY : List Addr} {Pv : Value → SymR → Prop} (C : Spec w n f vs (fix ++ l) [rl, bd] (fun v new => ∃ r : SymR, Pv v r ∧ SymP w T l FX rl bd new r))
    {dp un : Nat} {gd : Option (List Code)} {env : Env} {outer : List Env} {A₀ : Around} {base h₀ : Heap} {L : Addr} {m : Str → Option Value} {mean : ExcName → Option Value} {mg mb : Str → Option Value} {s : Shared} {Q E : Value → Shared → Prop} {news : Led} {g : SymR → Led}
    (B : Below A₀ base outer h₀) (F : Fr h₀ L s.heap m) (X : (KF w.params).In h₀) (N : News h₀ L s.heap news) (T₀ : Top q LZ mean mg mb h₀) (hf : env.frame = some L) (hk : env.scope.kind = .function) (hd : dp + n < recursionLimit) (hu : un + 8 * n < cLine)
    (hsub : ∀ p ∈ fix, p ∈ news) (hl : ∀ p ∈ l, p ∈ news) (hfix : ∀ p ∈ fix, p.1 ∈ FX) (R : RepF [rl, bd] l (fun r => r.l) (SymS rl bd) news g) (ho : OwnOff l FY) (hFY : ∀ b ∈ FY, ∃ o, (b, o) ∈ news) (h0 : ∀ p ∈ l0, p ∈ l)
    (h : ∀ r v h' tk', Pv v r → SymT w r.T r.its r.o r.l → T <+: r.T → (∀ p ∈ l0, p ∈ r.l) → OwnOff r.l FY → Fr h₀ L h' m → News h₀ L h' (g r) → Q v { s with heap := h', toks := tk' }) :
    wpAny (model PG w) (top dp un gd env outer) (call (.ref f) vs) Q E s := by
  refine C.use (fun r v => Pv v r ∧ SymT w r.T r.its r.o r.l ∧ T <+: r.T ∧ ∀ p ∈ l0, p ∈ r.l) B F X N T₀ hf hk hd hu (fun p hp => ?_) hl R ho hFY (fun v new hP => ?_) (fun r v h' tk' hP F' N' O' => h r v h' tk' hP.1 hP.2.1 hP.2.2.1 hP.2.2.2 O' F' N')
  · rcases List.mem_append.mp hp with a | a
    · exact hsub p a
    · exact hl p a
  · obtain ⟨r, h1, h2⟩ := hP
    refine ⟨r, ⟨h1, h2.t, h2.pre, fun p hp => h2.sub p (h0 p hp)⟩, ?_, fun p hp => .inr ⟨h2.now p hp, ?_⟩⟩
    · intro e he
      rcases List.mem_cons.mp he with rfl | he
      · exact h2.rows
      · rw [List.mem_singleton] at he; subst he; exact h2.texts
    · by_cases hc : p.1 ∈ l.map (·.1)
      · exact .inl hc
      · refine .inr fun hd => ?_
        rw [List.map_append] at hd
        rcases List.mem_append.mp hd with a | a
        · obtain ⟨q, hq, e⟩ := List.mem_map.mp a
          exact h2.off p hp _ (hfix q hq) e.symm
        · exact hc a


noncomputable abbrev ptObj (w : World) (pr fd : Addr) (co : Int) (a b c d e f : Tok) (n : Nat) : Obj := dictOf [⟨PyData.keyHash w.params (.ofString "rows"), .str (.ofString "rows") a, .ref pr⟩, ⟨PyData.keyHash w.params (.ofString "files"), .str (.ofString "files") b, .ref fd⟩, ⟨PyData.keyHash w.params (.ofString "current_output"), .str (.ofString "current_output") c, .int co d⟩, ⟨PyData.keyHash w.params (.ofString "current_input"), .str (.ofString "current_input") e, .int 1 f⟩] n
noncomputable abbrev portObj (w : World) (ca : Addr) (a b c : Tok) (n : Nat) : Obj := dictOf [⟨PyData.keyHash w.params (.ofString "codes"), .str (.ofString "codes") a, .ref ca⟩, ⟨PyData.keyHash w.params (.ofString "is_open"), .str (.ofString "is_open") b, .bool true⟩, ⟨PyData.keyHash w.params (.ofString "is_input"), .str (.ofString "is_input") c, .bool false⟩] n
noncomputable abbrev refObj (w : World) (k : Int) (a b : Tok) (n : Nat) : Obj := dictOf [⟨PyData.keyHash w.params (.ofString "number"), .str (.ofString "number") a, .int k b⟩] n
noncomputable abbrev stoObj (w : World) (tab : Addr) (a : Tok) (n : Nat) : Obj := dictOf [⟨PyData.keyHash w.params (.ofString "table"), .str (.ofString "table") a, .ref tab⟩] n

set_option maxHeartbeats 2000000 in
theorem parg_spec {w : World} {set sd pt ptd pr fd sto std tab ra rd pa pd ca : Addr} {es : List DictEntry} {co k : Int} {a b c d e f a1 a2 a3 b1 b2 b3 t1 t2 : Tok} {n n1 n2 n3 n4 nl : Nat} {its : Array Value} {nm : Str} {pl : Int}
    (hset : getL (.ofString "ports") es = some (some (.ref pt))) (h0 : 0 ≤ k) (h1 : k < 100000) (hx : its[k.toNat]? = some (.ref pa)) :
    Spec w 10 524 [.ref set, .ref sto, .str nm t1, .int pl t2, .ref ra, .bool false] [(set, instObj 598 sd), (sd, dictOf es n), (pt, instObj 506 ptd), (ptd, ptObj w pr fd co a b c d e f n1), (pr, W.listOf its nl), (sto, instObj 967 std), (std, stoObj w tab a1 n2), (ra, instObj 212 rd), (rd, refObj w k a2 a3 n3), (pa, instObj 422 pd), (pd, portObj w ca b1 b2 b3 n4)] []
      (fun v new => v = .ref pa ∧ new = [(set, instObj 598 sd), (sd, dictOf es n), (pt, instObj 506 ptd), (ptd, ptObj w pr fd co a b c d e f n1), (pr, W.listOf its nl), (sto, instObj 967 std), (std, stoObj w tab a1 n2), (ra, instObj 212 rd), (rd, refObj w k a2 a3 n3), (pa, instObj 422 pd), (pd, portObj w ca b1 b2 b3 n4)]) := by
  w_on
  intro dp un gd env outer A₀ base h₀ L m mean mg mb s Q E hB hF hK hN hT hfr hkd hdd hu hret
  refine wpAny_call ?_
  k_dflt k_enter
  w_nolog (repeat' (first | (k_unfold; (try dsimp only)) | (k_end; first | kc_close | wrow_close) | ((with_reducible show wpAny _ _ (subscriptTail _ _ _ _) _ _ _); (try dsimp only); first | ((with_reducible show wpAny _ _ (subscriptTail _ _ (Value.ref _) (Value.int _ _)) _ _ _); k_dflt (refine' item_M ?k1 ?k2 ?k4 ?k5 ?k3 ?_ ?k6; (case k1 => k_asm); (case k2 => k_mem); (case k3 => assumption); (case k4 => first | with_reducible assumption | omega); (case k5 => first | with_reducible assumption | omega); (case k6 => with_unfolding_all rfl); k_whole))) | walk1 | (dsimp only; walk1) | (leave1; try dsimp only)))
  all_goals (refine' hret _ _ _ _ ?zp ?zf ?zn ?zk ?zr; (case zf => k_asm); (case zn => k_asm); (case zk => refine keep_mut (by k_asm) (by k_asm) hN (by k_asm) ?_; repeat' (first | (with_reducible refine fac ?_ ?_) | (with_reducible exact List.forall_mem_nil _) | exact Or.inr (by k_mem) | exact Or.inl (List.Mem.head _) | exact Or.inl (.tail _ (.head _)) | exact Or.inl (.tail _ (.tail _ (.head _)))))); (case zr => exact fresh_of (by k_asm) (by k_asm)); (case zp => exact ⟨rfl, rfl⟩)

theorem parg_use {w : World} {set sd pt ptd pr fd sto std tab ra rd pa pd ca : Addr} {es : List DictEntry} {co k : Int} {a b c d e f a1 a2 a3 b1 b2 b3 t1 t2 : Tok} {n n1 n2 n3 n4 nl : Nat} {its : Array Value} {nm : Str} {pl : Int}
    {dp un : Nat} {gd : Option (List Code)} {env : Env} {outer : List Env} {A₀ : Around} {base h₀ : Heap} {L : Addr} {m : Str → Option Value} {mean : ExcName → Option Value} {mg mb : Str → Option Value} {s : Shared} {Q E : Value → Shared → Prop} {news : Led}
    (B : Below A₀ base outer h₀) (F : Fr h₀ L s.heap m) (X : (KF w.params).In h₀) (N : News h₀ L s.heap news) (T : Top q LZ mean mg mb h₀) (hf : env.frame = some L) (hk : env.scope.kind = .function) (hd : dp + 10 < recursionLimit) (hu : un + 8 * 10 < cLine)
    (m1 : (set, instObj 598 sd) ∈ news) (m2 : (sd, dictOf es n) ∈ news) (hset : getL (.ofString "ports") es = some (some (.ref pt))) (m3 : (pt, instObj 506 ptd) ∈ news) (m4 : (ptd, ptObj w pr fd co a b c d e f n1) ∈ news) (m5 : (pr, W.listOf its nl) ∈ news)
    (m6 : (sto, instObj 967 std) ∈ news) (m7 : (std, stoObj w tab a1 n2) ∈ news) (m8 : (ra, instObj 212 rd) ∈ news) (m9 : (rd, refObj w k a2 a3 n3) ∈ news) (hx : its[k.toNat]? = some (.ref pa)) (h0 : 0 ≤ k) (h1 : k < 100000)
    (m10 : (pa, instObj 422 pd) ∈ news) (m11 : (pd, portObj w ca b1 b2 b3 n4) ∈ news)
    (h : ∀ h' tk', Fr h₀ L h' m → News h₀ L h' news → Q (.ref pa) { s with heap := h', toks := tk' }) :
    wpAny (model PG w) (top dp un gd env outer) (call (.ref 524) [.ref set, .ref sto, .str nm t1, .int pl t2, .ref ra, .bool false]) Q E s :=
  parg_spec (co := co) (its := its) (ca := ca) hset h0 h1 hx dp un gd env outer A₀ base h₀ L m mean mg mb s Q E B F X (by
    intro p hp
    simp only [List.mem_cons, List.not_mem_nil, or_false] at hp
    rcases hp with rfl | rfl | rfl | rfl | rfl | rfl | rfl | rfl | rfl | rfl | rfl <;> exact N _ (by assumption)) T hf hk hd hu (fun v new h' tk' hP F' _ K' _ => by
    obtain ⟨rfl, _⟩ := hP
    exact h h' tk' F' (News.over N K' fun _ _ h => nomatch h))


theorem kf_out {w : World} : True := trivial
set_option maxHeartbeats 2000000 in
theorem out_cur {w : World} {set sd pt ptd pr fd sto std tab pa pd ca al : Addr} {es : List DictEntry} {co pl : Int} {a b c d e f a1 b1 b2 b3 t1 t2 : Tok} {n n1 n2 n4 nl na : Nat} {its av : Array Value} {nm : Str}
    (hset : getL (.ofString "ports") es = some (some (.ref pt))) (h0 : 0 ≤ co) (h1 : co < 100000) (hx : its[co.toNat]? = some (.ref pa)) (hav : av.size ≤ 1000) (hpl : (av.size : Int) ≤ pl) :
    Spec w 14 538 [.ref set, .ref sto, .str nm t1, .ref al, .int pl t2] [(set, instObj 598 sd), (sd, dictOf es n), (pt, instObj 506 ptd), (ptd, ptObj w pr fd co a b c d e f n1), (pr, W.listOf its nl), (sto, instObj 967 std), (std, stoObj w tab a1 n2), (al, W.listOf av na), (pa, instObj 422 pd), (pd, portObj w ca b1 b2 b3 n4)] []
      (fun v new => v = .ref pa) := by
  w_on
  intro dp un gd env outer A₀ base h₀ L m mean mg mb s Q E hB hF hK hN hT hfr hkd hdd hu hret
  refine wpAny_call ?_
  k_dflt k_enter
  (repeat' (first | (k_unfold; (try dsimp only)) | (k_end; first | kc_close | wrow_close) | ((with_reducible show wpAny _ _ (call _ _) _ _ _); (try dsimp only); first | ((with_reducible show wpAny _ _ (call (Value.ref 524) _) _ _ _); (k_dflt (apply parg_use); walk_at "kz2"; (try dsimp only); (try k_sweep))) | ((with_reducible show wpAny _ _ (call (Value.builtin "len") [Value.ref _]) _ _ _); k_dflt (refine' len_M ?k1 ?k2 ?k3 ?_; (case k1 => k_asm); (case k2 => k_mem); (case k3 => first | assumption | (simp only [Array.size_push]; omega)); k_whole); (try dsimp only))) | walk1 | (dsimp only; walk1) | (leave1; try dsimp only)))
  all_goals (refine' hret _ _ _ _ ?zp ?zf ?zn ?zk ?zr; (case zf => k_asm); (case zn => k_asm); (case zk => refine keep_mut (by k_asm) (by k_asm) hN (by k_asm) ?_; repeat' (first | (with_reducible refine fac ?_ ?_) | (with_reducible exact List.forall_mem_nil _) | exact Or.inr (by k_mem) | exact Or.inl (List.Mem.head _) | exact Or.inl (.tail _ (.head _)) | exact Or.inl (.tail _ (.tail _ (.head _)))))); (case zr => exact fresh_of (by k_asm) (by k_asm)); (case zp => exact rfl)

set_option maxHeartbeats 2000000 in
theorem out_arg {w : World} {set sd pt ptd pr fd sto std tab ra rd pa pd ca al : Addr} {es : List DictEntry} {co k pl : Int} {a b c d e f a1 a2 a3 b1 b2 b3 t1 t2 : Tok} {n n1 n2 n3 n4 nl na : Nat} {its av : Array Value} {nm : Str}
    (hset : getL (.ofString "ports") es = some (some (.ref pt))) (h0 : 0 ≤ k) (h1 : k < 100000) (hx : its[k.toNat]? = some (.ref pa)) (hav : av.size ≤ 1000) (hpl : pl < (av.size : Int)) (hp0 : 0 ≤ pl) (hax : av[pl.toNat]? = some (.ref ra)) :
    Spec w 14 538 [.ref set, .ref sto, .str nm t1, .ref al, .int pl t2] [(set, instObj 598 sd), (sd, dictOf es n), (pt, instObj 506 ptd), (ptd, ptObj w pr fd co a b c d e f n1), (pr, W.listOf its nl), (sto, instObj 967 std), (std, stoObj w tab a1 n2), (al, W.listOf av na), (ra, instObj 212 rd), (rd, refObj w k a2 a3 n3), (pa, instObj 422 pd), (pd, portObj w ca b1 b2 b3 n4)] []
      (fun v new => v = .ref pa) := by
  w_on
  intro dp un gd env outer A₀ base h₀ L m mean mg mb s Q E hB hF hK hN hT hfr hkd hdd hu hret
  refine wpAny_call ?_
  k_dflt k_enter
  w_nolog (repeat' (first | (k_unfold; (try dsimp only)) | (k_end; first | kc_close | wrow_close) | ((with_reducible show wpAny _ _ (call _ _) _ _ _); (try dsimp only); first | ((with_reducible show wpAny _ _ (call (Value.ref 524) _) _ _ _); (k_dflt (apply parg_use); walk_at "kz2"; (try dsimp only); (try k_sweep))) | ((with_reducible show wpAny _ _ (call (Value.builtin "len") [Value.ref _]) _ _ _); k_dflt (refine' len_M ?k1 ?k2 ?k3 ?_; (case k1 => k_asm); (case k2 => k_mem); (case k3 => first | assumption | (simp only [Array.size_push]; omega)); k_whole); (try dsimp only))) | ((with_reducible show wpAny _ _ (subscriptTail _ _ _ _) _ _ _); (try dsimp only); first | ((with_reducible show wpAny _ _ (subscriptTail _ _ (Value.ref _) (Value.int _ _)) _ _ _); k_dflt (refine' item_M ?k1 ?k2 ?k4 ?k5 ?k3 ?_ ?k6; (case k1 => k_asm); (case k2 => k_mem); (case k3 => assumption); (case k4 => first | with_reducible assumption | omega); (case k5 => first | with_reducible assumption | omega); (case k6 => with_unfolding_all rfl); k_whole))) | walk1 | (dsimp only; walk1) | (leave1; try dsimp only)))
  all_goals (refine' hret _ _ _ _ ?zp ?zf ?zn ?zk ?zr; (case zf => k_asm); (case zn => k_asm); (case zk => refine keep_mut (by k_asm) (by k_asm) hN (by k_asm) ?_; repeat' (first | (with_reducible refine fac ?_ ?_) | (with_reducible exact List.forall_mem_nil _) | exact Or.inr (by k_mem) | exact Or.inl (List.Mem.head _) | exact Or.inl (.tail _ (.head _)) | exact Or.inl (.tail _ (.tail _ (.head _)))))); (case zr => exact fresh_of (by k_asm) (by k_asm)); (case zp => exact rfl)

theorem out_cur_use {w : World} {set sd pt ptd pr fd sto std tab pa pd ca al : Addr} {es : List DictEntry} {co pl : Int} {a b c d e f a1 b1 b2 b3 t1 t2 : Tok} {n n1 n2 n4 nl na : Nat} {its av : Array Value} {nm : Str}
    {dp un : Nat} {gd : Option (List Code)} {env : Env} {outer : List Env} {A₀ : Around} {base h₀ : Heap} {L : Addr} {m : Str → Option Value} {mean : ExcName → Option Value} {mg mb : Str → Option Value} {s : Shared} {Q E : Value → Shared → Prop} {news : Led}
    (B : Below A₀ base outer h₀) (F : Fr h₀ L s.heap m) (X : (KF w.params).In h₀) (N : News h₀ L s.heap news) (T : Top q LZ mean mg mb h₀) (hf : env.frame = some L) (hk : env.scope.kind = .function) (hd : dp + 14 < recursionLimit) (hu : un + 8 * 14 < cLine)
    (m1 : (set, instObj 598 sd) ∈ news) (m2 : (sd, dictOf es n) ∈ news) (hs : getL (.ofString "ports") es = some (some (.ref pt))) (m3 : (pt, instObj 506 ptd) ∈ news) (m4 : (ptd, ptObj w pr fd co a b c d e f n1) ∈ news) (m5 : (pr, W.listOf its nl) ∈ news) (m6 : (sto, instObj 967 std) ∈ news) (m7 : (std, stoObj w tab a1 n2) ∈ news) (m8 : (al, W.listOf av na) ∈ news) (hv : av.size ≤ 1000) (hp : (av.size : Int) ≤ pl) (h0 : 0 ≤ co) (h1 : co < 100000) (hx : its[co.toNat]? = some (.ref pa)) (m9 : (pa, instObj 422 pd) ∈ news) (m10 : (pd, portObj w ca b1 b2 b3 n4) ∈ news)
    (h : ∀ h' tk', Fr h₀ L h' m → News h₀ L h' news → Q (.ref pa) { s with heap := h', toks := tk' }) :
    wpAny (model PG w) (top dp un gd env outer) (call (.ref 538) [.ref set, .ref sto, .str nm t1, .ref al, .int pl t2]) Q E s :=
  out_cur (co := co) (its := its) (ca := ca) (av := av) hs h0 h1 hx hv hp dp un gd env outer A₀ base h₀ L m mean mg mb s Q E B F X (by
    intro p hp
    simp only [List.mem_cons, List.not_mem_nil, or_false] at hp
    rcases hp with rfl | rfl | rfl | rfl | rfl | rfl | rfl | rfl | rfl | rfl <;> exact N _ (by assumption)) T hf hk hd hu (fun v new h' tk' hP F' _ K' _ => by
    subst hP
    exact h h' tk' F' (News.over N K' fun _ _ h => nomatch h))
theorem out_arg_use {w : World} {set sd pt ptd pr fd sto std tab ra rd pa pd ca al : Addr} {es : List DictEntry} {co k pl : Int} {a b c d e f a1 a2 a3 b1 b2 b3 t1 t2 : Tok} {n n1 n2 n3 n4 nl na : Nat} {its av : Array Value} {nm : Str}
    {dp un : Nat} {gd : Option (List Code)} {env : Env} {outer : List Env} {A₀ : Around} {base h₀ : Heap} {L : Addr} {m : Str → Option Value} {mean : ExcName → Option Value} {mg mb : Str → Option Value} {s : Shared} {Q E : Value → Shared → Prop} {news : Led}
    (B : Below A₀ base outer h₀) (F : Fr h₀ L s.heap m) (X : (KF w.params).In h₀) (N : News h₀ L s.heap news) (T : Top q LZ mean mg mb h₀) (hf : env.frame = some L) (hk : env.scope.kind = .function) (hd : dp + 14 < recursionLimit) (hu : un + 8 * 14 < cLine)
    (m1 : (set, instObj 598 sd) ∈ news) (m2 : (sd, dictOf es n) ∈ news) (hs : getL (.ofString "ports") es = some (some (.ref pt))) (m3 : (pt, instObj 506 ptd) ∈ news) (m4 : (ptd, ptObj w pr fd co a b c d e f n1) ∈ news) (m5 : (pr, W.listOf its nl) ∈ news) (m6 : (sto, instObj 967 std) ∈ news) (m7 : (std, stoObj w tab a1 n2) ∈ news) (m8 : (al, W.listOf av na) ∈ news) (hv : av.size ≤ 1000) (hp : pl < (av.size : Int)) (hq : 0 ≤ pl) (hax : av[pl.toNat]? = some (.ref ra)) (m11 : (ra, instObj 212 rd) ∈ news) (m12 : (rd, refObj w k a2 a3 n3) ∈ news) (h0 : 0 ≤ k) (h1 : k < 100000) (hx : its[k.toNat]? = some (.ref pa)) (m9 : (pa, instObj 422 pd) ∈ news) (m10 : (pd, portObj w ca b1 b2 b3 n4) ∈ news)
    (h : ∀ h' tk', Fr h₀ L h' m → News h₀ L h' news → Q (.ref pa) { s with heap := h', toks := tk' }) :
    wpAny (model PG w) (top dp un gd env outer) (call (.ref 538) [.ref set, .ref sto, .str nm t1, .ref al, .int pl t2]) Q E s :=
  out_arg (co := co) (its := its) (ca := ca) (av := av) hs h0 h1 hx hv hp hq hax dp un gd env outer A₀ base h₀ L m mean mg mb s Q E B F X (by
    intro p hp
    simp only [List.mem_cons, List.not_mem_nil, or_false] at hp
    rcases hp with rfl | rfl | rfl | rfl | rfl | rfl | rfl | rfl | rfl | rfl | rfl | rfl <;> exact N _ (by assumption)) T hf hk hd hu (fun v new h' tk' hP F' _ K' _ => by
    subst hP
    exact h h' tk' F' (News.over N K' fun _ _ h => nomatch h))
noncomputable abbrev charObj (w : World) (code : Int) (a b : Tok) (n : Nat) : Obj := dictOf [⟨PyData.keyHash w.params (.ofString "code"), .str (.ofString "code") a, .int code b⟩] n

set_option maxHeartbeats 2000000 in
theorem newline_spec {w : World} {set sd pt ptd pr fd sto std tab pa pd ca al : Addr} {es : List DictEntry} {co : Int} {a b c d e f a1 b1 b2 b3 : Tok} {n n1 n2 n4 nl na nc : Nat} {its cs : Array Value}
    (hset : getL (.ofString "ports") es = some (some (.ref pt))) (h0 : 0 ≤ co) (h1 : co < 100000) (hx : its[co.toNat]? = some (.ref pa)) (hcs : cs.size ≤ 1000)
    (e1 : @Ne Nat set ca) (e2 : @Ne Nat sd ca) (e3 : @Ne Nat pt ca) (e4 : @Ne Nat ptd ca) (e5 : @Ne Nat pr ca) (e6 : @Ne Nat sto ca) (e7 : @Ne Nat std ca) (e8 : @Ne Nat al ca) (e9 : @Ne Nat pa ca) (e10 : @Ne Nat pd ca) :
    Spec w 18 566 [.ref set, .ref sto, .ref al] [(set, instObj 598 sd), (sd, dictOf es n), (pt, instObj 506 ptd), (ptd, ptObj w pr fd co a b c d e f n1), (pr, W.listOf its nl), (sto, instObj 967 std), (std, stoObj w tab a1 n2), (al, W.listOf #[] na), (pa, instObj 422 pd), (pd, portObj w ca b1 b2 b3 n4), (ca, W.listOf cs nc)] [ca]
      (fun v new => v = .ref 47 ∧ ∃ t nc', (ca, W.listOf (cs.push (.int 10 t)) nc') ∈ new) := by
  w_on
  intro dp un gd env outer A₀ base h₀ L m mean mg mb s Q E hB hF hK hN hT hfr hkd hdd hu hret
  refine wpAny_call ?_
  k_dflt k_enter
  (repeat' (first | (k_unfold; (try dsimp only)) | (k_end; first | kc_close | wrow_close) | ((with_reducible show wpAny _ _ (call _ _) _ _ _); (try dsimp only); first | ((with_reducible show wpAny _ _ (call (Value.ref 538) _) _ _ _); first | (k_dflt (apply out_cur_use); walk_at "kz2"; (try dsimp only); (try k_sweep)) | (k_dflt (apply out_arg_use); walk_at "kz2"; (try dsimp only); (try k_sweep))) | ((try dsimp only [List.nil_append, List.cons_append]); (with_reducible show wpAny _ _ (call (Value.builtin "list.extend") [Value.ref _, Value.ref _]) _ _ _); k_dflt (refine' extend_M ?k1 ?k2 ?k4 ?k3 ?z ?_; (case k1 => k_asm); (case k2 => k_asm); (case k4 => k_mem); (case k3 => k_upd); (case z => first | assumption | omega); k_whole); intros; (try k_sweep))) | walk1 | (dsimp only; walk1) | (leave1; try dsimp only)))
  all_goals (refine' hret _ _ _ _ ?zp ?zf ?zn ?zk ?zr; (case zf => k_asm); (case zn => k_asm); (case zk => refine keep_mut (by k_asm) (by k_asm) hN (by k_asm) ?_; repeat' (first | (with_reducible refine fac ?_ ?_) | (with_reducible exact List.forall_mem_nil _) | exact Or.inr (by k_mem) | exact Or.inl (List.Mem.head _) | exact Or.inl (.tail _ (.head _)) | exact Or.inl (.tail _ (.tail _ (.head _)))))); (case zr => exact fresh_of (by k_asm) (by k_asm)); (case zp => exact ⟨rfl, _, _, by k_mem⟩)


set_option maxHeartbeats 2000000 in
theorem wchar_cur {w : World} {set sd pt ptd pr fd sto std tab al : Addr} {es : List DictEntry} {co : Int} {a b c d e f a1 : Tok} {n n1 n2 nl na : Nat} {its : Array Value} {pa pd ca : Addr} {b1 b2 b3 : Tok} {n4 nc : Nat} {cs : Array Value} {cha chd : Addr} {code : Int} {g1 g2 : Tok} {n5 : Nat}
    (hset : getL (.ofString "ports") es = some (some (.ref pt))) (h0 : 0 ≤ co) (h1 : co < 100000) (hx : its[co.toNat]? = some (.ref pa)) (hcs : cs.size ≤ 1000) (e0ca : @Ne Nat set ca) (e1ca : @Ne Nat sd ca) (e2ca : @Ne Nat pt ca) (e3ca : @Ne Nat ptd ca) (e4ca : @Ne Nat pr ca) (e5ca : @Ne Nat sto ca) (e6ca : @Ne Nat std ca) (e7ca : @Ne Nat al ca) (e8ca : @Ne Nat pa ca) (e9ca : @Ne Nat pd ca) (e10ca : @Ne Nat cha ca) (e11ca : @Ne Nat chd ca) :
    Spec w 18 573 [.ref set, .ref sto, .ref al] [(set, instObj 598 sd), (sd, dictOf es n), (pt, instObj 506 ptd), (ptd, ptObj w pr fd co a b c d e f n1), (pr, W.listOf its nl), (sto, instObj 967 std), (std, stoObj w tab a1 n2), (al, W.listOf #[.ref cha] na), (cha, instObj 170 chd), (chd, charObj w code g1 g2 n5), (pa, instObj 422 pd), (pd, portObj w ca b1 b2 b3 n4), (ca, W.listOf cs nc)] [ca]
      (fun v new => v = .ref 47 ∧ ∃ t nc', (ca, W.listOf (cs.push (.int code t)) nc') ∈ new) := by
  w_on
  intro dp un gd env outer A₀ base h₀ L m mean mg mb s Q E hB hF hK hN hT hfr hkd hdd hu hret
  refine wpAny_call ?_
  k_dflt k_enter
  (repeat' (first | (k_unfold; (try dsimp only)) | (k_end; first | kc_close | wrow_close) | ((with_reducible show wpAny _ _ (call _ _) _ _ _); (try dsimp only); first | ((with_reducible show wpAny _ _ (call (Value.ref 524) _) _ _ _); (k_dflt (apply parg_use); walk_at "kz2"; (try dsimp only); (try k_sweep))) | ((try dsimp only [List.nil_append, List.cons_append]); (with_reducible show wpAny _ _ (call (Value.builtin "list.extend") [Value.ref _, Value.ref _]) _ _ _); k_dflt (refine' extend_M ?k1 ?k2 ?k4 ?k3 ?z ?_; (case k1 => k_asm); (case k2 => k_asm); (case k4 => k_mem); (case k3 => k_upd); (case z => first | assumption | omega); k_whole); intros; (try k_sweep))) | walk1 | (dsimp only; walk1) | (leave1; try dsimp only)))
  all_goals (refine' hret _ _ _ _ ?zp ?zf ?zn ?zk ?zr; (case zf => k_asm); (case zn => k_asm); (case zk => refine keep_mut (by k_asm) (by k_asm) hN (by k_asm) ?_; repeat' (first | (with_reducible refine fac ?_ ?_) | (with_reducible exact List.forall_mem_nil _) | exact Or.inr (by k_mem) | exact Or.inl (List.Mem.head _) | exact Or.inl (.tail _ (.head _)) | exact Or.inl (.tail _ (.tail _ (.head _)))))); (case zr => exact fresh_of (by k_asm) (by k_asm)); (case zp => exact ⟨rfl, _, _, by k_mem⟩)

set_option maxHeartbeats 2000000 in
theorem wchar_arg {w : World} {set sd pt ptd pr fd sto std tab al : Addr} {es : List DictEntry} {co : Int} {a b c d e f a1 : Tok} {n n1 n2 nl na : Nat} {its : Array Value} {pa pd ca : Addr} {b1 b2 b3 : Tok} {n4 nc : Nat} {cs : Array Value} {cha chd : Addr} {code : Int} {g1 g2 : Tok} {n5 : Nat} {ra rd : Addr} {k : Int} {a2 a3 : Tok} {n3 : Nat}
    (hset : getL (.ofString "ports") es = some (some (.ref pt))) (h0 : 0 ≤ k) (h1 : k < 100000) (hx : its[k.toNat]? = some (.ref pa)) (hcs : cs.size ≤ 1000) (e0ca : @Ne Nat set ca) (e1ca : @Ne Nat sd ca) (e2ca : @Ne Nat pt ca) (e3ca : @Ne Nat ptd ca) (e4ca : @Ne Nat pr ca) (e5ca : @Ne Nat sto ca) (e6ca : @Ne Nat std ca) (e7ca : @Ne Nat al ca) (e8ca : @Ne Nat pa ca) (e9ca : @Ne Nat pd ca) (e10ca : @Ne Nat cha ca) (e11ca : @Ne Nat chd ca) (e12ca : @Ne Nat ra ca) (e13ca : @Ne Nat rd ca) :
    Spec w 18 573 [.ref set, .ref sto, .ref al] [(set, instObj 598 sd), (sd, dictOf es n), (pt, instObj 506 ptd), (ptd, ptObj w pr fd co a b c d e f n1), (pr, W.listOf its nl), (sto, instObj 967 std), (std, stoObj w tab a1 n2), (al, W.listOf #[.ref cha, .ref ra] na), (cha, instObj 170 chd), (chd, charObj w code g1 g2 n5), (ra, instObj 212 rd), (rd, refObj w k a2 a3 n3), (pa, instObj 422 pd), (pd, portObj w ca b1 b2 b3 n4), (ca, W.listOf cs nc)] [ca]
      (fun v new => v = .ref 47 ∧ ∃ t nc', (ca, W.listOf (cs.push (.int code t)) nc') ∈ new) := by
  w_on
  intro dp un gd env outer A₀ base h₀ L m mean mg mb s Q E hB hF hK hN hT hfr hkd hdd hu hret
  refine wpAny_call ?_
  k_dflt k_enter
  (repeat' (first | (k_unfold; (try dsimp only)) | (k_end; first | kc_close | wrow_close) | ((with_reducible show wpAny _ _ (call _ _) _ _ _); (try dsimp only); first | ((with_reducible show wpAny _ _ (call (Value.ref 524) _) _ _ _); (k_dflt (apply parg_use); walk_at "kz2"; (try dsimp only); (try k_sweep))) | ((try dsimp only [List.nil_append, List.cons_append]); (with_reducible show wpAny _ _ (call (Value.builtin "list.extend") [Value.ref _, Value.ref _]) _ _ _); k_dflt (refine' extend_M ?k1 ?k2 ?k4 ?k3 ?z ?_; (case k1 => k_asm); (case k2 => k_asm); (case k4 => k_mem); (case k3 => k_upd); (case z => first | assumption | omega); k_whole); intros; (try k_sweep))) | walk1 | (dsimp only; walk1) | (leave1; try dsimp only)))
  all_goals (refine' hret _ _ _ _ ?zp ?zf ?zn ?zk ?zr; (case zf => k_asm); (case zn => k_asm); (case zk => refine keep_mut (by k_asm) (by k_asm) hN (by k_asm) ?_; repeat' (first | (with_reducible refine fac ?_ ?_) | (with_reducible exact List.forall_mem_nil _) | exact Or.inr (by k_mem) | exact Or.inl (List.Mem.head _) | exact Or.inl (.tail _ (.head _)) | exact Or.inl (.tail _ (.tail _ (.head _)))))); (case zr => exact fresh_of (by k_asm) (by k_asm)); (case zp => exact ⟨rfl, _, _, by k_mem⟩)

set_option maxHeartbeats 2000000 in
theorem setcur_spec {w : World} {set sd pt ptd pr fd sto std tab al : Addr} {es : List DictEntry} {co : Int} {a b c d e f a1 : Tok} {n n2 nl na : Nat} {its : Array Value} {pa pd ca : Addr} {b1 b2 b3 : Tok} {n4 : Nat} {ra rd : Addr} {k : Int} {a2 a3 : Tok} {n3 : Nat}
    (hset : getL (.ofString "ports") es = some (some (.ref pt))) (h0 : 0 ≤ k) (h1 : k < 100000) (hx : its[k.toNat]? = some (.ref pa)) (e0ptd : @Ne Nat set ptd) (e1ptd : @Ne Nat sd ptd) (e2ptd : @Ne Nat pt ptd) (e3ptd : @Ne Nat pr ptd) (e4ptd : @Ne Nat sto ptd) (e5ptd : @Ne Nat std ptd) (e6ptd : @Ne Nat al ptd) (e7ptd : @Ne Nat pa ptd) (e8ptd : @Ne Nat pd ptd) (e9ptd : @Ne Nat ra ptd) (e10ptd : @Ne Nat rd ptd) :
    Spec w 18 545 [.ref set, .ref sto, .ref al] [(set, instObj 598 sd), (sd, dictOf es n), (pt, instObj 506 ptd), (ptd, ptObj w pr fd co a b c d e f 4), (pr, W.listOf its nl), (sto, instObj 967 std), (std, stoObj w tab a1 n2), (al, W.listOf #[.ref ra] na), (ra, instObj 212 rd), (rd, refObj w k a2 a3 n3), (pa, instObj 422 pd), (pd, portObj w ca b1 b2 b3 n4)] [ptd]
      (fun v new => v = .ref 47 ∧ ∃ d', (ptd, ptObj w pr fd k a b c d' e f 4) ∈ new) := by
  w_on
  intro dp un gd env outer A₀ base h₀ L m mean mg mb s Q E hB hF hK hN hT hfr hkd hdd hu hret
  refine wpAny_call ?_
  k_dflt k_enter
  (repeat' (first | (k_unfold; (try dsimp only)) | (k_end; first | kc_close | wrow_close) | ((with_reducible show wpAny _ _ (call _ _) _ _ _); (try dsimp only); first | ((with_reducible show wpAny _ _ (call (Value.ref 524) _) _ _ _); (k_dflt (apply parg_use); walk_at "kz2"; (try dsimp only); (try k_sweep)))) | walk1 | (dsimp only; walk1) | (leave1; try dsimp only)))
  all_goals (refine' hret _ _ _ _ ?zp ?zf ?zn ?zk ?zr; (case zf => k_asm); (case zn => k_asm); (case zk => refine keep_mut (by k_asm) (by k_asm) hN (by k_asm) ?_; repeat' (first | (with_reducible refine fac ?_ ?_) | (with_reducible exact List.forall_mem_nil _) | exact Or.inr (by k_mem) | exact Or.inl (List.Mem.head _) | exact Or.inl (.tail _ (.head _)) | exact Or.inl (.tail _ (.tail _ (.head _)))))); (case zr => exact fresh_of (by k_asm) (by k_asm)); (case zp => exact ⟨rfl, _, by k_mem⟩)

noncomputable abbrev textObj (w : World) (ca : Addr) (a b : Tok) (n : Nat) : Obj := dictOf [⟨PyData.keyHash w.params (.ofString "codes"), .str (.ofString "codes") a, .ref ca⟩, ⟨PyData.keyHash w.params (.ofString "mark"), .str (.ofString "mark") b, .none⟩] n
set_option maxHeartbeats 2000000 in
theorem getstr_spec {w : World} {set sd pt ptd pr fd sto std tab al : Addr} {es : List DictEntry} {co : Int} {a b c d e f a1 : Tok} {n n1 n2 nl na : Nat} {its : Array Value} {pa pd ca : Addr} {b1 b2 b3 : Tok} {n4 nc : Nat} {cs : List Value} {ks : List Int} {ra rd : Addr} {k : Int} {a2 a3 : Tok} {n3 : Nat}
    (hset : getL (.ofString "ports") es = some (some (.ref pt))) (h0 : 0 ≤ k) (h1 : k < 100000) (hx : its[k.toNat]? = some (.ref pa)) (hi : IntsAre cs ks) (hcs : ks.length ≤ 1000) :
    Spec w 18 559 [.ref set, .ref sto, .ref al] [(set, instObj 598 sd), (sd, dictOf es n), (pt, instObj 506 ptd), (ptd, ptObj w pr fd co a b c d e f n1), (pr, W.listOf its nl), (sto, instObj 967 std), (std, stoObj w tab a1 n2), (al, W.listOf #[.ref ra] na), (ra, instObj 212 rd), (rd, refObj w k a2 a3 n3), (pa, instObj 422 pd), (pd, portObj w ca b1 b2 b3 n4), (ca, W.listOf cs.toArray nc)] []
      (fun v new => ∃ tx td la a b n n', v = .ref tx ∧ (tx, instObj 191 td) ∈ new ∧ (td, textObj w la a b n) ∈ new ∧ (la, W.listOf cs.toArray n') ∈ new) := by
  w_on
  intro dp un gd env outer A₀ base h₀ L m mean mg mb s Q E hB hF hK hN hT hfr hkd hdd hu hret
  refine wpAny_call ?_
  k_dflt k_enter
  (repeat' (first | (k_unfold; (try dsimp only)) | (k_end; first | kc_close | wrow_close) | ((with_reducible show wpAny _ _ (call _ _) _ _ _); (try dsimp only); first | ((with_reducible show wpAny _ _ (call (Value.ref 524) _) _ _ _); (k_dflt (apply parg_use); walk_at "kz2"; (try dsimp only); (try k_sweep)))) | walk1 | (dsimp only; walk1) | (leave1; try dsimp only)))
  all_goals (refine' hret _ _ _ _ ?zp ?zf ?zn ?zk ?zr; (case zf => k_asm); (case zn => k_asm); (case zk => refine keep_mut (by k_asm) (by k_asm) hN (by k_asm) ?_; repeat' (first | (with_reducible refine fac ?_ ?_) | (with_reducible exact List.forall_mem_nil _) | exact Or.inr (by k_mem) | exact Or.inl (List.Mem.head _) | exact Or.inl (.tail _ (.head _)) | exact Or.inl (.tail _ (.tail _ (.head _)))))); (case zr => exact fresh_of (by k_asm) (by k_asm)); (case zp => exact ⟨_, _, _, _, _, _, _, rfl, by k_mem, by k_mem, by k_mem⟩)

/-! ## loops whose turns change the ledger -/
def TurnEnd (h₀ : Heap) (L I : Addr) (oI : Obj) (J : (Str → Option Value) → Led → Prop) (s₁ : Shared) (Q : Flow → Shared → Prop) (f : Flow) (s₂ : Shared) : Prop :=
  match f with
  | .ret v => Q (.ret v) s₂
  | .brk => Q .next s₂
  | _ => ∃ h' tk m' nx', s₂ = { s₁ with heap := h', toks := tk } ∧ Fr h₀ L h' m' ∧ News h₀ L h' ((I, oI) :: nx') ∧ (∀ p ∈ nx', p.1 ≠ I) ∧ J m' nx'
section
variable {prog : Program} {w : World} {A : Around} {E : Value → Shared → Prop} {s : Shared} {env : Env} {h₀ : Heap} {x : Str} {body : List Stmt} {Q : Flow → Shared → Prop} {m : Str → Option Value} {news : Led}
theorem loop_core {I : Addr} {fp : List Addr} {n : Nat} {P : Nat → Value → Prop} {St : Nat → Heap → Prop} (J : Nat → (Str → Option Value) → Led → Prop)
    (W : Walks prog w A I fp [I] n P St) (hfp : ∀ b ∈ fp, b = I ∨ ∃ o, h₀.get? b = some o) (hIo : ∀ i h, St i h → ∃ o, h.get? I = some o)
    (hL : env.locals ∉ fp) (hst : St 0 s.heap) (F : Fr h₀ env.locals s.heap m) (N : News h₀ env.locals s.heap news) (hI₀ : h₀.get? I = none) (off : ∀ p ∈ news, p.1 ≠ I) (hj : J 0 m news)
    (turn : ∀ i v m₁ nx h tk oI, i < n → P i v → J i m₁ nx → (∀ p ∈ nx, p.1 ≠ I) → Fr h₀ env.locals h (fun y => if y = x then some v else m₁ y) → News h₀ env.locals h ((I, oI) :: nx) →
      wpAny (model prog w) A (execs body env) (TurnEnd h₀ env.locals I oI (J (i + 1)) { s with heap := h, toks := tk } Q) E { s with heap := h, toks := tk })
    (done : ∀ m₁ nx h tk, J n m₁ nx → Fr h₀ env.locals h m₁ → News h₀ env.locals h nx → Q .next { s with heap := h, toks := tk }) :
    LoopAtV prog w A h₀ env x body Q E (.ref I) s := by
  have hIf : I ∈ fp := W.sub I (.head _)
  refine ⟨I, fp, [I], n, P, St, m, news, J, rfl, W, hL, ?_, ?_, hst, F, N, hj, ?_, fun h' tk m' nx F' N' _ hJ => done m' nx h' tk hJ F' N'⟩
  · intro b hb; rw [List.mem_singleton.mp hb]; exact hI₀
  · intro p hp hm; exact off p hp (List.mem_singleton.mp hm)
  · rintro i v m₁ nx s₁ own ⟨h, tk, rfl⟩ hi hP hJ hnx hown hownH hfull hst' F' N'
    obtain ⟨oI, hoI⟩ := hIo _ _ hst'
    have hIo' : (I, oI) ∈ own := hfull I hIf hI₀ oI hoI
    have hnI : ∀ p ∈ nx, p.1 ≠ I := fun p hp e => hnx p hp (by rw [e]; exact .head _)
    have N₁ : News h₀ env.locals h ((I, oI) :: nx) := fun p hp => by
      rcases List.mem_cons.mp hp with rfl | hp
      · exact N' _ (List.mem_append_left _ hIo')
      · exact N' _ (List.mem_append_right _ hp)
    refine wpAny_mono (turn i v m₁ nx h tk oI hi hP hJ hnI F' N₁) (fun f s₂ hf => ?_) fun _ _ e => e
    have fin : (∃ h' tk' m' nx', s₂ = { { s with heap := h, toks := tk } with heap := h', toks := tk' } ∧ Fr h₀ env.locals h' m' ∧ News h₀ env.locals h' ((I, oI) :: nx') ∧ (∀ p ∈ nx', p.1 ≠ I) ∧ J (i + 1) m' nx') →
        LoopStepU h₀ env.locals [I] own (J (i + 1)) { s with heap := h, toks := tk } .next s₂ := by
      rintro ⟨h', tk', m', nx', rfl, F₂, N₂, hn, hJ'⟩
      refine ⟨rfl, h', tk', m', nx', rfl, F₂, fun p hp => ?_, fun p hp hm => hn p hp (List.mem_singleton.mp hm), hJ'⟩
      rcases List.mem_append.mp hp with hp | hp
      · rcases hfp _ (hown p hp) with e | ⟨o, e⟩
        · have h1 := hownH p hp
          rw [e, hoI] at h1
          have : p = (I, oI) := Prod.ext e (Option.some.inj h1).symm
          subst this
          exact N₂ _ (.head _)
        · exact absurd (N' p (List.mem_append_left _ hp)).2.2 (by rw [e]; exact fun h => nomatch h)
      · exact N₂ p (.tail _ hp)
    cases f with
    | ret v => exact .ret hf
    | brk => exact .brk hf
    | next => exact .next (fin hf)
    | cont => exact .cont (fin hf)
theorem range_loop {r : Addr} {b₀ : Int} {t₀ u₀ v₀ : Tok} {n : Nat} (J : Nat → (Str → Option Value) → Led → Prop)
    (hh : A.handled = none) (hr : IsRange s.heap r 0 b₀ 1 t₀ u₀ v₀) (hn : b₀ = (n : Int)) (hsm : n ≤ 100000) (F : Fr h₀ env.locals s.heap m) (N : News h₀ env.locals s.heap news) (hj : J 0 m news)
    (turn : ∀ (i : Nat) t I m₁ nx h tk oI, i < n → J i m₁ nx → (∀ p ∈ nx, p.1 ≠ I) → Fr h₀ env.locals h (fun y => if y = x then some (.int i t) else m₁ y) → News h₀ env.locals h ((I, oI) :: nx) →
      wpAny (model prog w) A (execs body env) (TurnEnd h₀ env.locals I oI (J (i + 1)) { s with heap := h, toks := tk } Q) E { s with heap := h, toks := tk })
    (done : ∀ m₁ nx h tk, J n m₁ nx → Fr h₀ env.locals h m₁ → News h₀ env.locals h nx → Q .next { s with heap := h, toks := tk }) :
    wpAny (model prog w) A (pyIter (.ref r)) (fun it s₂ => LoopAtV prog w A h₀ env x body Q E it s₂) E s := by
  have hsmall : Builtin.Range.small 0 b₀ 1 = true := by
    exact PySem.small_one (by omega) (by omega) (by omega) (by omega)
  have hsz : Builtin.Range.rangeSize 0 b₀ 1 = (n : Int) := by
    rw [hn]; unfold Builtin.Range.rangeSize; simp; omega
  refine wpAny_pyIter_range hr hsmall ?_
  refine loop_core J (LCg.range_walks hh 0 n) ?_ ?_ ?_ (by show IsRangeIter _ _ _ _ _; rw [hsz]; simpa using Heap.get?_push_size _ rfl) (F.push _) (fun p hp => ⟨Heap.get?_push_of_some _ (N p hp).1, (N p hp).2⟩) (next_is_new F) (fun p hp => Nat.ne_of_lt (Heap.lt_size (N p hp).1)) hj ?_ done
  · intro b hb; exact .inl (List.mem_singleton.mp hb)
  · intro i h st; exact ⟨_, st⟩
  · intro hm; exact absurd F.ns.lt (by rw [List.mem_singleton.mp hm]; exact Nat.lt_irrefl _)
  · rintro i v m₁ nx h tk oI hi ⟨t, rfl⟩ hJ hI F' N'
    rw [Int.zero_add] at F'
    exact turn i t _ m₁ nx h tk oI hi hJ hI F' N'
theorem tuple_loop {r : Addr} {its : Array Value} (J : Nat → (Str → Option Value) → Led → Prop)
    (hh : A.handled = none) (hr : h₀.IsTuple r its) (F : Fr h₀ env.locals s.heap m) (N : News h₀ env.locals s.heap news) (hj : J 0 m news)
    (turn : ∀ (i : Nat) v I m₁ nx h tk oI, its[i]? = some v → J i m₁ nx → (∀ p ∈ nx, p.1 ≠ I) → Fr h₀ env.locals h (fun y => if y = x then some v else m₁ y) → News h₀ env.locals h ((I, oI) :: nx) →
      wpAny (model prog w) A (execs body env) (TurnEnd h₀ env.locals I oI (J (i + 1)) { s with heap := h, toks := tk } Q) E { s with heap := h, toks := tk })
    (done : ∀ m₁ nx h tk, J its.size m₁ nx → Fr h₀ env.locals h m₁ → News h₀ env.locals h nx → Q .next { s with heap := h, toks := tk }) :
    wpAny (model prog w) A (pyIter (.ref r)) (fun it s₂ => LoopAtV prog w A h₀ env x body Q E it s₂) E s := by
  obtain ⟨ol, hol, hol'⟩ := id hr
  have hrs : s.heap.IsTuple r its := ⟨ol, F.keep _ _ hol, hol'⟩
  have hlt : r < s.heap.objs.size := Heap.lt_size (F.keep _ _ hol)
  refine wpAny_pyIter_tuple hrs ?_
  refine loop_core J (Walks.tuple hh s.heap.objs.size r (Nat.ne_of_lt hlt) its) ?_ ?_ ?_ ⟨⟨_, Heap.get?_push_size _ rfl, rfl, rfl⟩, ⟨ol, Heap.get?_push_of_some _ (F.keep _ _ hol), hol'⟩⟩ (F.push _) (fun p hp => ⟨Heap.get?_push_of_some _ (N p hp).1, (N p hp).2⟩) (next_is_new F) (fun p hp => Nat.ne_of_lt (Heap.lt_size (N p hp).1)) hj ?_ done
  · intro b hb
    rcases List.mem_cons.mp hb with e | hb
    · exact .inl e
    · rw [List.mem_singleton.mp hb]; exact .inr ⟨ol, hol⟩
  · rintro i h ⟨⟨o, e, _⟩, _⟩; exact ⟨o, e⟩
  · intro hm
    rcases List.mem_cons.mp hm with e | hm
    · exact absurd F.ns.lt (by rw [e]; exact Nat.lt_irrefl _)
    · have h1 := F.above
      have h2 := Heap.lt_size hol
      rw [← List.mem_singleton.mp hm] at h2
      exact absurd h2 (Nat.not_lt.mpr h1)
  · rintro i v m₁ nx h tk oI hi hP hJ hI F' N'
    exact turn i v _ m₁ nx h tk oI hP hJ hI F' N'
end
/-! ## comprehensions whose elements change the ledger -/
section
variable {prog : Program} {w : World} {A : Around} {E : Value → Shared → Prop} {s : Shared} {h₀ : Heap} {L : Addr} {m : Str → Option Value} {env : Env}
theorem comp_ind {elt : Expr} {x : Str} {scope : Scope} {cl : List (Str × Addr)} {S : Led → Prop} {P : Nat → Value → Prop} {Fin : List Value → Led → Prop} {n : Nat} (J : Nat → List Value → Led → Prop) {news : Led}
    (h0 : J 0 [] news)
    (step : ∀ i ys nx v I oI C oC D m₂ h tk (E' : Value → Shared → Prop), i < n → J i ys nx → P i v → LCg.NsObj oC m₂ → m₂ x = some v → Fr h₀ L h m → News h₀ L h ((I, oI) :: (C, oC) :: (D, LCg.lst ys) :: nx) → LCg.Off3 I C D nx → ((@Ne Nat I C) ∧ (@Ne Nat I D) ∧ (@Ne Nat C D)) →
      wpAny (model prog w) A (eval elt (compEnvC scope cl C env)) (LCg.CompEnd h₀ L m { s with heap := h, toks := tk } I oI C oC D (LCg.lst ys) S (fun y nx' => J (i + 1) (ys ++ [y]) nx')) E' { s with heap := h, toks := tk })
    (fin : ∀ ys nx, J n ys nx → Fin ys nx) : LCg.CompRest prog w A h₀ L m env elt x scope cl s S P Fin n 0 [] news := by
  have : ∀ k i ys nx, i + k = n → J i ys nx → LCg.CompRest prog w A h₀ L m env elt x scope cl s S P Fin k i ys nx := by
    intro k
    induction k with
    | zero => intro i ys nx hi hJ; obtain rfl : i = n := by omega
              exact fin ys nx hJ
    | succ k ih =>
      intro i ys nx hi hJ v I oI C oC D m₂ h tk E' hP hC hx F N off ne
      refine wpAny_mono (step i ys nx v I oI C oC D m₂ h tk E' (by omega) hJ hP hC hx F N off ne) (fun y s₂ hs => ?_) fun _ _ e => e
      obtain ⟨h', tk', nx', e, F', N', o', S', r⟩ := hs
      exact ⟨h', tk', nx', e, F', N', o', S', ih (i + 1) (ys ++ [y]) nx' (by omega) r⟩
  exact this n 0 [] news (by omega) h0
/-- a source of a block that is no list and no range: a tuple of the base, the values of a dict -/
def CompGen (prog : Program) (w : World) (A : Around) (h₀ : Heap) (L : Addr) (m : Str → Option Value) (env : Env) (elt : Expr) (x : Str) (scope : Scope) (cl : List (Str × Addr)) (Fin : Shared → List Value → Led → Prop) (xv : Value) (s₁ : Shared) : Prop :=
  ∃ (src : Addr) (n : Nat) (P : Nat → Value → Prop) (St : Addr → Nat → Heap → Prop) (S : Led → Prop) (news : Led) (it : Obj),
    xv = .ref src ∧ Fr h₀ L s₁.heap m ∧ News h₀ L s₁.heap news ∧ n ≤ sizeLine ∧ S news ∧ src < s₁.heap.objs.size ∧ it.isFreed = false ∧
    (∀ (Q' : Value → Shared → Prop) (E' : Value → Shared → Prop), Q' (.ref s₁.heap.objs.size) { s₁ with heap := s₁.heap.push it } → wpAny (model prog w) A (pyIter (.ref src)) Q' E' s₁) ∧
    (∀ I, s₁.heap.objs.size ≤ I → ∃ fp, (∀ b ∈ fp, b = I ∨ b < s₁.heap.objs.size) ∧ Walks prog w A I fp [I] n P (St I)) ∧ (∀ I i h, St I i h → ∃ o, h.get? I = some o) ∧
    (∀ I i h h' o nw, St I i h → h.get? I = some o → h'.get? I = some o → (∀ b o, h₀.get? b = some o → h'.get? b = some o) → News h₀ L h' nw → S nw → St I i h') ∧
    St s₁.heap.objs.size 0 (s₁.heap.push it) ∧
    ∀ s₂ : Shared, (∃ h, s₂ = { s₁ with heap := h }) → LCg.CompRest prog w A h₀ L m env elt x scope cl s₂ S P (Fin s₂) n 0 [] news
theorem listcomp_gen {elt iter : Expr} {x : Str} {px : Pos} {scope : Scope} {cl : List (Str × Addr)} {pos : Pos} {Q : Value → Shared → Prop} (F₀ : Fr h₀ L s.heap m)
    (hclos : closureFor scope env = pure cl) (hcell : ∀ y ∈ scope.names, y.2 ≠ .cell) (hkind : scope.kind = .function)
    (hnames : ∀ y ∈ scope.names, y.2 = .local → scope.names.lookup y.1 = some .local) (hx : scope.names.lookup x = some .local)
    (h : wpAny (model prog w) A (eval iter env) (CompGen prog w A h₀ L m env elt x scope cl (fun s₂ => LCg.FinE h₀ L m s₂ Q)) E s)
    (hs : ∀ x, foldedSetIterable iter env x = pure x := by intro _; rfl) :
    wpAny (model prog w) A (eval (.ListComp elt [⟨.Name x px, iter, [], 0⟩] scope pos) env) Q E s := by
  rw [eval_ListComp]
  refine wpAny_comprehension_free (use := none) rfl hs hclos hkind hnames (wpAny_mono h (fun xv s₁ h₁ => ?_) fun _ _ e => e)
  obtain ⟨src, n, P, St, S, news, it, rfl, F, N, hsz, hS, hlt, hfr, hit, hW, hIo, hSt, hst, R⟩ := h₁
  refine hit _ _ ?_
  obtain ⟨fp, hfp, W⟩ := hW s₁.heap.objs.size (Nat.le_refl _)
  have up : ∀ b o, s₁.heap.get? b = some o → (s₁.heap.push it).get? b = some o := fun b o e => Heap.get?_push_of_some _ e
  refine LCg.block_U W hsz (hIo _) (hSt _) hcell hkind hx hst (fun b hb => ?_)
    (F.keeps up) (N.grown up) (Nat.ne_of_lt F.ns.lt) (next_is_new F) (fun p hp => Nat.ne_of_lt (Heap.lt_size (N p hp).1)) hS (R _ ⟨_, rfl⟩) ?_
  · show b < (s₁.heap.push _).objs.size
    rw [Heap.size_push]
    rcases hfp b hb with rfl | hb
    · exact Nat.lt_succ_self _
    · exact Nat.lt_succ_of_lt hb
  · intro D C h tk m' ys news' F' N' o1 hn hC₀ hD₀ hCL hDL hCD offC fin
    refine ⟨m', hn, fun h'' hs'' => fin D h'' tk (F'.change hs'' hCL hC₀) (fun p hp => ?_) o1⟩
    refine ⟨hs''.extBut _ _ ?_ (N' p hp).1, (N' p hp).2⟩
    rcases List.mem_cons.mp hp with rfl | hp
    · exact Ne.symm hCD
    · exact offC p hp
theorem CompGen.tuple {elt : Expr} {x : Str} {scope : Scope} {cl : List (Str × Addr)} {Fin : Shared → List Value → Led → Prop} {r : Addr} {its : Array Value} {news : Led} (hh : A.handled = none) (F : Fr h₀ L s.heap m) (N : News h₀ L s.heap news) (hr : h₀.IsTuple r its) (hsz : its.size ≤ 1000)
    (h : ∀ g, LCg.CompRest prog w A h₀ L m env elt x scope cl { s with heap := g } (fun _ => True) (fun i v => its[i]? = some v) (Fin { s with heap := g }) its.size 0 [] news) :
    CompGen prog w A h₀ L m env elt x scope cl Fin (.ref r) s := by
  obtain ⟨ol, hol, hol'⟩ := id hr
  have hrs : s.heap.IsTuple r its := ⟨ol, F.keep _ _ hol, hol'⟩
  have hlt : r < s.heap.objs.size := Heap.lt_size (F.keep _ _ hol)
  refine ⟨r, its.size, fun i v => its[i]? = some v, fun I i h => h.IsTupleIter I r i ∧ h.IsTuple r its, fun _ => True, news, _, rfl, F, N, small_line hsz, trivial, hlt, ?_, fun Q' E' hq => wpAny_pyIter_tuple hrs hq, ?_, ?_, ?_, ?_, fun _ ⟨g, e⟩ => e ▸ h g⟩
  · rfl
  · intro I hI
    exact ⟨_, fun b hb => by
      rcases List.mem_cons.mp hb with e | hb
      · exact .inl e
      · rw [List.mem_singleton.mp hb]; exact .inr hlt, Walks.tuple hh I r (Nat.ne_of_lt (Nat.lt_of_lt_of_le hlt hI)) its⟩
  · rintro I i h ⟨⟨o, e, _⟩, _⟩; exact ⟨o, e⟩
  · intro I i h h' o nw st e e' k _ _
    refine ⟨?_, ⟨ol, k _ _ hol, hol'⟩⟩
    obtain ⟨o', q, r'⟩ := st.1
    rw [e] at q; cases q
    exact ⟨o, e', r'⟩
  · exact ⟨⟨_, Heap.get?_push_size _ rfl, rfl, rfl⟩, ⟨ol, Heap.get?_push_of_some _ (F.keep _ _ hol), hol'⟩⟩
theorem CompGen.values {K : Type} [DecidableEq K] {knd : KeyKind prog w K} {elt : Expr} {x : Str} {scope : Scope} {cl : List (Str × Addr)} {Fin : Shared → List Value → Led → Prop} {r d : Addr} {o : Obj} {kvs : List (K × Value)} {news : Led} (hh : A.handled = none) (F : Fr h₀ L s.heap m) (N : News h₀ L s.heap news)
    (hr : (r, ({ cls := .type "dict_values", data := .fields #[.ref d] } : Obj)) ∈ news) (hm : (d, o) ∈ news) (hd : o.IsDictOf knd kvs) (hsz : kvs.length ≤ 1000)
    (h : ∀ g, LCg.CompRest prog w A h₀ L m env elt x scope cl { s with heap := g } (fun nw => (d, o) ∈ nw) (fun i v => ∃ k, kvs[i]? = some (k, v)) (Fin { s with heap := g }) kvs.length 0 [] news) :
    CompGen prog w A h₀ L m env elt x scope cl Fin (.ref r) s := by
  have hv : s.heap.IsValuesView r d := ⟨_, (N _ hr).1, rfl, rfl⟩
  obtain ⟨es, ep, c1, c2, c3, c4, c5⟩ := id hd
  have hD : ∀ h' : Heap, h'.get? d = some o → h'.DictAt knd d kvs ep := fun h' e => ⟨o, es, e, c1, c2, c3, c4, c5⟩
  have hD0 := hD _ (N _ hm).1
  refine ⟨r, kvs.length, fun i v => ∃ k, kvs[i]? = some (k, v), fun I i h => h.IsValIter I d i kvs.length ep ∧ h.DictAt knd d kvs ep, fun nw => (d, o) ∈ nw, news, _, rfl, F, N, small_line hsz, hm, Heap.lt_size (N _ hr).1, ?_, fun Q' E' hq => wpAny_pyIter_values hv hD0 hq, ?_, ?_, ?_, ?_, fun _ ⟨g, e⟩ => e ▸ h g⟩
  · rfl
  · intro I hI
    have hdlt := Heap.lt_size (N _ hm).1
    exact ⟨_, fun b hb => by
      rcases List.mem_cons.mp hb with e | hb
      · exact .inl e
      · rw [List.mem_singleton.mp hb]; exact .inr hdlt, Walks.dictValues hh I d (Nat.ne_of_lt (Nat.lt_of_lt_of_le hdlt hI)) kvs ep⟩
  · rintro I i h ⟨⟨o, e, _⟩, _⟩; exact ⟨o, e⟩
  · intro I i h h' oI nw st e e' k N' hS
    refine ⟨?_, hD _ (N' _ hS).1⟩
    obtain ⟨o', q, r'⟩ := st.1
    rw [e] at q; cases q
    exact ⟨oI, e', r'⟩
  · exact ⟨⟨_, Heap.get?_push_size _ rfl, rfl, rfl⟩, hD0.push _⟩
end
/-! ## dicts -/
section
variable {K : Type} [DecidableEq K]
theorem valueAt_stored {kvs : List (K × Value)} {k j : K} {v : Value} : valueAt (stored kvs k v) j = if j = k then some v else valueAt kvs j := by
  cases hv : valueAt kvs k with
  | none =>
    rw [stored_absent hv]
    split
    · rename_i e; subst e; exact valueAt_snoc_same hv
    · exact valueAt_snoc_ne ‹_›
  | some u =>
    have hany : kvs.any (fun kv => decide (kv.1 = k)) = true := by
      unfold valueAt at hv
      cases h : kvs.find? (fun kv => decide (kv.1 = k)) with
      | none => rw [h] at hv; cases hv
      | some p => exact List.any_eq_true.mpr ⟨p, List.mem_of_find?_eq_some h, List.find?_some (p := fun kv : K × Value => decide (kv.1 = k)) h⟩
    unfold stored
    rw [if_pos hany]
    clear hv
    unfold valueAt
    rw [List.find?_map]
    have e : ((fun kv : K × Value => decide (kv.1 = j)) ∘ fun kv => if kv.1 = k then (kv.1, v) else kv) = fun kv => decide (kv.1 = j) := by
      funext kv; simp only [Function.comp]; split <;> rfl
    rw [e]
    cases h : kvs.find? (fun kv => decide (kv.1 = j)) with
    | none =>
      split
      · rename_i e; subst e
        rw [List.find?_eq_none] at h
        obtain ⟨p, hp, hq⟩ := List.any_eq_true.mp hany
        exact absurd hq (h p hp)
      · rfl
    | some p =>
      have hp : p.1 = j := of_decide_eq_true (List.find?_some (p := fun kv : K × Value => decide (kv.1 = j)) h)
      simp only [Option.map_some]
      by_cases hk : p.1 = k
      · rw [if_pos hk, if_pos (hp ▸ hk)]
      · rw [if_neg hk, if_neg (fun e => hk (hp.trans e))]
theorem stored_some {kvs : List (K × Value)} {k : K} {v : Value} (h : (valueAt kvs k).isSome = true) : (stored kvs k v).length = kvs.length := by
  have hany : kvs.any (fun kv => decide (kv.1 = k)) = true := by
    unfold valueAt at h
    cases h' : kvs.find? (fun kv => decide (kv.1 = k)) with
    | none => rw [h'] at h; cases h
    | some p => exact List.any_eq_true.mpr ⟨p, List.mem_of_find?_eq_some h', List.find?_some (p := fun kv : K × Value => decide (kv.1 = k)) h'⟩
  unfold stored; rw [if_pos hany, List.length_map]
def sdef (kvs : List (K × Value)) (k : K) (v : Value) : List (K × Value) := if (valueAt kvs k).isSome then kvs else kvs ++ [(k, v)]
theorem sdef_len {kvs : List (K × Value)} {k : K} {v : Value} : (sdef kvs k v).length ≤ kvs.length + 1 := by
  unfold sdef; split <;> simp
theorem valueAt_sdef {kvs : List (K × Value)} {k j : K} {v : Value} : valueAt (sdef kvs k v) j = if j = k then some ((valueAt kvs k).getD v) else valueAt kvs j := by
  unfold sdef
  cases hv : valueAt kvs k with
  | none =>
    simp only [Option.isSome_none, Bool.false_eq_true, if_false, Option.getD_none]
    split
    · rename_i e; subst e; exact valueAt_snoc_same hv
    · exact valueAt_snoc_ne ‹_›
  | some u =>
    simp only [Option.isSome_some, if_true, Option.getD_some]
    split
    · rename_i e; subst e; exact hv
    · rfl
theorem mem_of_valueAt {kvs : List (K × Value)} {k : K} {v : Value} (h : valueAt kvs k = some v) : (k, v) ∈ kvs := by
  unfold valueAt at h
  cases h' : kvs.find? (fun kv => decide (kv.1 = k)) with
  | none => rw [h'] at h; cases h
  | some p =>
    rw [h'] at h
    have hp : p.1 = k := of_decide_eq_true (List.find?_some (p := fun kv : K × Value => decide (kv.1 = k)) h')
    have : p = (k, v) := Prod.ext hp (Option.some.inj h)
    exact this ▸ List.mem_of_find?_eq_some h'
theorem valueAt_of_mem {kvs : List (K × Value)} (hn : (kvs.map (·.1)).Nodup) {k : K} {v : Value} (h : (k, v) ∈ kvs) : valueAt kvs k = some v := by
  induction kvs with
  | nil => nomatch h
  | cons p r ih =>
    rw [List.map_cons, List.nodup_cons] at hn
    unfold valueAt
    rw [List.find?_cons]
    rcases List.mem_cons.mp h with rfl | h
    · simp
    · have hne : ¬ p.1 = k := fun e => hn.1 (e ▸ List.mem_map.mpr ⟨_, h, rfl⟩)
      simp only [hne, decide_false]
      exact ih hn.2 h
end
section
variable {prog : Program} {w : World} {K : Type} [DecidableEq K] {knd : KeyKind prog w K} {A : Around} {E : Value → Shared → Prop} {s : Shared} {h₀ : Heap} {L d : Addr} {m : Str → Option Value} {news : Led} {g : Obj → Led} {o : Obj} {kvs : List (K × Value)} {k : K} {key v : Value}
theorem IsDictOf.nodup (hd : o.IsDictOf knd kvs) : (kvs.map (·.1)).Nodup := let ⟨_, _, _, _, _, _, hn⟩ := hd; hn
theorem setdef_M {Q : Value → Shared → Prop} (F : Fr h₀ L s.heap m) (N : News h₀ L s.heap news) (U : UpdF d o news g) (hd : o.IsDictOf knd kvs) (lo : (d == sysModules) = false) (hkey : knd.is k key = true) (hsz : kvs.length ≤ 1000)
    (h : ∀ h' o', Fr h₀ L h' m → News h₀ L h' (g o') → o'.IsDictOf knd (sdef kvs k v) → Q ((valueAt kvs k).getD v) { s with heap := h', toks := s.toks + 1 }) : wpAny (model prog w) A (call (.builtin "dict.setdefault") [.ref d, key, v]) Q E s := by
  obtain ⟨pre, post, rfl, hg, a, b⟩ := U.split
  have hm := N (d, o) (List.mem_append_right _ (.head _))
  have hD : s.heap.DictOf knd d kvs := Heap.dictOf_iff.mpr ⟨o, hm.1, hd⟩
  refine call_meetsIn PySem.F.slot_dict_setdefault hD.typeIs PySem.F.entry_dict_setdefault (PySem.F.args_dict_setdefault_3 _ _ _) (kt_meets_setdefault knd d hkey lo v) ⟨kvs, hD, small_line hsz, fun u hu => ?_, fun hn h' hmm hs => ?_⟩
  · have := h s.heap o F (hg o ▸ N) (by unfold sdef; rw [hu]; exact hd)
    rw [hu] at this
    exact this
  · obtain ⟨o', ho', hd'⟩ := Heap.dictOf_iff.mp hmm
    have := h h' o' (F.change hs hm.2.1 hm.2.2) (hg o' ▸ N.setIn a b hs ho') (by
      unfold sdef; rw [hn]; rw [stored_absent hn] at hd'; exact hd')
    rw [hn] at this
    exact this
end
/-! ## loops that store their own name alone -/
def TurnEnd0 (h₀ : Heap) (L I : Addr) (oI : Obj) (mt : Str → Option Value) (J : Led → Prop) (s₁ : Shared) (Q : Flow → Shared → Prop) (f : Flow) (s₂ : Shared) : Prop :=
  match f with
  | .ret v => Q (.ret v) s₂
  | .brk => Q .next s₂
  | _ => ∃ h' tk nx', s₂ = { s₁ with heap := h', toks := tk } ∧ Fr h₀ L h' mt ∧ News h₀ L h' ((I, oI) :: nx') ∧ (∀ p ∈ nx', p.1 ≠ I) ∧ J nx'
theorem News.sub {h₀ h : Heap} {L : Addr} {l l' : Led} (N : News h₀ L h l) (hs : ∀ p ∈ l', p ∈ l) : News h₀ L h l' := fun p hp => N p (hs p hp)
theorem OwnOff.cons {l : Led} {I : Addr} {FX : List Addr} (h : OwnOff l FX) (hI : ∀ p ∈ l, p.1 ≠ I) : OwnOff l (I :: FX) := fun p hp b hb => by
  rcases List.mem_cons.mp hb with rfl | hb
  · exact hI p hp
  · exact h p hp b hb
theorem map_end {m : Str → Option Value} {x : Str} {u v : Option Value} : (fun y => if y = x then v else (fun y => if y = x then u else m y) y) = fun y => if y = x then v else m y := by
  funext y
  by_cases h : y = x <;> simp [h]
theorem map_start (m : Str → Option Value) (x : Str) : m = fun y => if y = x then m x else m y := by
  funext y
  by_cases h : y = x <;> simp [h]
section
variable {prog : Program} {w : World} {A : Around} {E : Value → Shared → Prop} {s : Shared} {env : Env} {h₀ : Heap} {x : Str} {body : List Stmt} {Q : Flow → Shared → Prop} {m : Str → Option Value} {news : Led}
theorem range_loop0 {r : Addr} {b₀ : Int} {t₀ u₀ v₀ : Tok} {n : Nat} (J : Nat → Led → Prop)
    (hh : A.handled = none) (hr : IsRange s.heap r 0 b₀ 1 t₀ u₀ v₀) (hn : b₀ = (n : Int)) (hsm : n ≤ 100000) (F : Fr h₀ env.locals s.heap m) (N : News h₀ env.locals s.heap news) (hj : J 0 news)
    (turn : ∀ (i : Nat) t I nx h tk oI, i < n → J i nx → LCg.Off1 I nx → Fr h₀ env.locals h (fun y => if y = x then some (.int i t) else m y) → News h₀ env.locals h ((I, oI) :: nx) →
      wpAny (model prog w) A (execs body env) (TurnEnd0 h₀ env.locals I oI (fun y => if y = x then some (.int i t) else m y) (J (i + 1)) { s with heap := h, toks := tk } Q) E { s with heap := h, toks := tk })
    (done : ∀ u nx h tk, J n nx → Fr h₀ env.locals h (fun y => if y = x then u else m y) → News h₀ env.locals h nx → Q .next { s with heap := h, toks := tk }) :
    wpAny (model prog w) A (pyIter (.ref r)) (fun it s₂ => LoopAtV prog w A h₀ env x body Q E it s₂) E s := by
  refine range_loop (fun i m₁ nx => (∃ u, m₁ = fun y => if y = x then u else m y) ∧ J i nx) hh hr hn hsm F N ⟨⟨_, map_start m x⟩, hj⟩ ?_ ?_
  · rintro i t I m₁ nx h tk oI hi ⟨⟨u, rfl⟩, hJ⟩ hI F' N'
    rw [map_end] at F'
    refine wpAny_mono (turn i t I nx h tk oI hi hJ (off1_of hI) F' N') (fun f s₂ hf => ?_) fun _ _ e => e
    have fin : (∃ h' tk' nx', s₂ = { { s with heap := h, toks := tk } with heap := h', toks := tk' } ∧ Fr h₀ env.locals h' (fun y => if y = x then some (.int i t) else m y) ∧ News h₀ env.locals h' ((I, oI) :: nx') ∧ (∀ p ∈ nx', p.1 ≠ I) ∧ J (i + 1) nx') →
        ∃ h' tk' m' nx', s₂ = { { s with heap := h, toks := tk } with heap := h', toks := tk' } ∧ Fr h₀ env.locals h' m' ∧ News h₀ env.locals h' ((I, oI) :: nx') ∧ (∀ p ∈ nx', p.1 ≠ I) ∧ ((∃ u, m' = fun y => if y = x then u else m y) ∧ J (i + 1) nx') :=
      fun ⟨h', tk', nx', a, b, c, d, e⟩ => ⟨h', tk', _, nx', a, b, c, d, ⟨_, rfl⟩, e⟩
    cases f with
    | ret v => exact hf
    | brk => exact hf
    | next => exact fin hf
    | cont => exact fin hf
  · rintro m₁ nx h tk ⟨⟨u, rfl⟩, hJ⟩ F' N'
    exact done u nx h tk hJ F' N'
theorem tuple_loop0 {r : Addr} {its : Array Value} (J : Nat → Led → Prop)
    (hh : A.handled = none) (hr : h₀.IsTuple r its) (F : Fr h₀ env.locals s.heap m) (N : News h₀ env.locals s.heap news) (hj : J 0 news)
    (turn : ∀ (i : Nat) v I nx h tk oI, its[i]? = some v → J i nx → LCg.Off1 I nx → Fr h₀ env.locals h (fun y => if y = x then some v else m y) → News h₀ env.locals h ((I, oI) :: nx) →
      wpAny (model prog w) A (execs body env) (TurnEnd0 h₀ env.locals I oI (fun y => if y = x then some v else m y) (J (i + 1)) { s with heap := h, toks := tk } Q) E { s with heap := h, toks := tk })
    (done : ∀ u nx h tk, J its.size nx → Fr h₀ env.locals h (fun y => if y = x then u else m y) → News h₀ env.locals h nx → Q .next { s with heap := h, toks := tk }) :
    wpAny (model prog w) A (pyIter (.ref r)) (fun it s₂ => LoopAtV prog w A h₀ env x body Q E it s₂) E s := by
  refine tuple_loop (fun i m₁ nx => (∃ u, m₁ = fun y => if y = x then u else m y) ∧ J i nx) hh hr F N ⟨⟨_, map_start m x⟩, hj⟩ ?_ ?_
  · rintro i v I m₁ nx h tk oI hi ⟨⟨u, rfl⟩, hJ⟩ hI F' N'
    rw [map_end] at F'
    refine wpAny_mono (turn i v I nx h tk oI hi hJ (off1_of hI) F' N') (fun f s₂ hf => ?_) fun _ _ e => e
    have fin : (∃ h' tk' nx', s₂ = { { s with heap := h, toks := tk } with heap := h', toks := tk' } ∧ Fr h₀ env.locals h' (fun y => if y = x then some v else m y) ∧ News h₀ env.locals h' ((I, oI) :: nx') ∧ (∀ p ∈ nx', p.1 ≠ I) ∧ J (i + 1) nx') →
        ∃ h' tk' m' nx', s₂ = { { s with heap := h, toks := tk } with heap := h', toks := tk' } ∧ Fr h₀ env.locals h' m' ∧ News h₀ env.locals h' ((I, oI) :: nx') ∧ (∀ p ∈ nx', p.1 ≠ I) ∧ ((∃ u, m' = fun y => if y = x then u else m y) ∧ J (i + 1) nx') :=
      fun ⟨h', tk', nx', a, b, c, d, e⟩ => ⟨h', tk', _, nx', a, b, c, d, ⟨_, rfl⟩, e⟩
    cases f with
    | ret v => exact hf
    | brk => exact hf
    | next => exact fin hf
    | cont => exact fin hf
  · rintro m₁ nx h tk ⟨⟨u, rfl⟩, hJ⟩ F' N'
    exact done u nx h tk hJ F' N'
end
theorem turn_next {h₀ h' : Heap} {L I : Addr} {oI : Obj} {mt : Str → Option Value} {J : Led → Prop} {s₁ : Shared} {Q : Flow → Shared → Prop} {tk : Nat} {nx' : Led} (F : Fr h₀ L h' mt) (N : News h₀ L h' ((I, oI) :: nx')) (off : ∀ p ∈ nx', p.1 ≠ I) (hJ : J nx') :
    TurnEnd0 h₀ L I oI mt J s₁ Q .next { s₁ with heap := h', toks := tk } := ⟨h', tk, nx', rfl, F, N, off, hJ⟩
section
variable {prog : Program} {w : World} {A : Around} {E : Value → Shared → Prop} {s : Shared} {h₀ : Heap} {L : Addr} {m : Str → Option Value} {env : Env}
/-- a block whose elements leave the ledger as it is -/
theorem comp_keep {elt : Expr} {x : Str} {scope : Scope} {cl : List (Str × Addr)} {S : Led → Prop} {P : Nat → Value → Prop} {Fin : List Value → Led → Prop} {n : Nat} {news : Led} (J : Nat → List Value → Prop)
    (h0 : J 0 [])
    (step : ∀ i ys v I oI C oC D m₂ h tk (E' : Value → Shared → Prop), i < n → J i ys → P i v → LCg.NsObj oC m₂ → m₂ x = some v → Fr h₀ L h m → News h₀ L h ((I, oI) :: (C, oC) :: (D, LCg.lst ys) :: news) → LCg.Off3 I C D news → ((@Ne Nat I C) ∧ (@Ne Nat I D) ∧ (@Ne Nat C D)) →
      wpAny (model prog w) A (eval elt (compEnvC scope cl C env)) (LCg.CompEnd h₀ L m { s with heap := h, toks := tk } I oI C oC D (LCg.lst ys) S (fun y nx' => nx' = news ∧ J (i + 1) (ys ++ [y]))) E' { s with heap := h, toks := tk })
    (fin : ∀ ys, J n ys → Fin ys news) : LCg.CompRest prog w A h₀ L m env elt x scope cl s S P Fin n 0 [] news :=
  comp_ind (fun i ys nx => nx = news ∧ J i ys) ⟨rfl, h0⟩ (fun i ys nx v I oI C oC D m₂ h tk E' hi ⟨e, hJ⟩ hP hC hx F N off ne => by
    subst e; exact step i ys v I oI C oC D m₂ h tk E' hi hJ hP hC hx F N off ne) (fun ys nx ⟨e, hJ⟩ => by subst e; exact fin ys hJ)
theorem comp_keep_end {I C D : Addr} {oI oC oD : Obj} {S : Led → Prop} {news all : Led} {J : Value → Prop} {y : Value} {s₁ : Shared} {h' : Heap} {tk : Nat} (F : Fr h₀ L h' m) (N : News h₀ L h' all) (sub : ∀ p ∈ (I, oI) :: (C, oC) :: (D, oD) :: news, p ∈ all) (off : LCg.Off3 I C D news) (hS : S news) (r : J y) :
    LCg.CompEnd h₀ L m s₁ I oI C oC D oD S (fun y nx' => nx' = news ∧ J y) y { s₁ with heap := h', toks := tk } := LCg.CompEnd.intro F N news sub off hS ⟨rfl, r⟩
theorem range_size (n : Nat) : Builtin.Range.rangeSize 0 (n : Int) 1 = (n : Int) := by unfold Builtin.Range.rangeSize; simp; omega
theorem ints_snoc {vs : List Value} {ns : List Int} {n : Int} {t : Tok} (h : IntsAre vs ns) : IntsAre (vs ++ [.int n t]) (ns ++ [n]) := IntsAre.append h (.cons n t .nil)
end
section
variable {prog : Program} {w : World} {A : Around} {E : Value → Shared → Prop} {s : Shared} {h₀ : Heap} {L : Addr} {m : Str → Option Value} {env : Env}
/-- a block whose ledger only grows -/
theorem comp_grow {elt : Expr} {x : Str} {scope : Scope} {cl : List (Str × Addr)} {S : Led → Prop} {P : Nat → Value → Prop} {Fin : List Value → Led → Prop} {n : Nat} {news : Led} (J : Nat → List Value → Led → Prop)
    (h0 : J 0 [] news)
    (step : ∀ i ys nx v I oI C oC D m₂ h tk (E' : Value → Shared → Prop), i < n → (∀ p ∈ news, p ∈ nx) → J i ys nx → P i v → LCg.NsObj oC m₂ → m₂ x = some v → Fr h₀ L h m → News h₀ L h ((I, oI) :: (C, oC) :: (D, LCg.lst ys) :: nx) → LCg.Off3 I C D nx → ((@Ne Nat I C) ∧ (@Ne Nat I D) ∧ (@Ne Nat C D)) →
      wpAny (model prog w) A (eval elt (compEnvC scope cl C env)) (LCg.CompEnd h₀ L m { s with heap := h, toks := tk } I oI C oC D (LCg.lst ys) S (fun y nx' => (∀ p ∈ news, p ∈ nx') ∧ J (i + 1) (ys ++ [y]) nx')) E' { s with heap := h, toks := tk })
    (fin : ∀ ys nx, (∀ p ∈ news, p ∈ nx) → J n ys nx → Fin ys nx) : LCg.CompRest prog w A h₀ L m env elt x scope cl s S P Fin n 0 [] news :=
  comp_ind (fun i ys nx => (∀ p ∈ news, p ∈ nx) ∧ J i ys nx) ⟨fun _ h => h, h0⟩ (fun i ys nx v I oI C oC D m₂ h tk E' hi ⟨e, hJ⟩ hP hC hx F N off ne => step i ys nx v I oI C oC D m₂ h tk E' hi e hJ hP hC hx F N off ne) (fun ys nx ⟨e, hJ⟩ => fin ys nx e hJ)
theorem off3_of {I C D : Addr} {l : Led} (h : LCg.Off3 I C D l) : ∀ p ∈ l, p.1 ≠ I ∧ p.1 ≠ C ∧ p.1 ≠ D := LCg.Off3.mem h
end
local macro_rules | `(tactic| k_updF) => `(tactic| first
  | apply RepF.here
  | (apply RepF.chg; tb_rel; k_updF)
  | (apply RepF.k1; k_ne; k_updF)
  | (apply RepF.k2; k_ne; k_ne; k_updF)
  | (apply RepF.k3; k_ne; k_ne; k_ne; k_updF)
  | (apply RepF.off; first | exact List.forall_mem_nil _ | exact off_of (by assumption) (by (repeat' (first | (with_reducible refine fac ?_ ?_) | exact List.forall_mem_nil _ | k_memK)))))
local macro_rules | `(tactic| k_all) => `(tactic| exact OwnOff.ne (by assumption) (by k_memK))

theorem sub_at {l l' : Led} {p : Addr × Obj} (h : ∀ p ∈ l, p ∈ l') (hp : p ∈ l) : p ∈ l' := h p hp

theorem tsym_use {w : World} {tab dt rl bd : Addr} {ta tb t : Tok} {n nl : Nat} {its : Array Value} {o : Obj} {T : List Str} {x : Str}
    {dp un : Nat} {gd : Option (List Code)} {env : Env} {outer : List Env} {A₀ : Around} {base h₀ : Heap} {L : Addr} {m : Str → Option Value} {mean : ExcName → Option Value} {mg mb : Str → Option Value} {s : Shared} {Q E : Value → Shared → Prop} {news l l0 : Led} {FY : List Addr} {g : SymR → Led}
    (B : Below A₀ base outer h₀) (F : Fr h₀ L s.heap m) (X : (KF w.params).In h₀) (N : News h₀ L s.heap news) (T₀ : Top q LZ mean mg mb h₀) (hf : env.frame = some L) (hk : env.scope.kind = .function) (hd : dp + 6 < recursionLimit) (hu : un + 8 * 6 < cLine)
    (m1 : (tab, instObj 128 dt) ∈ news) (m2 : (dt, tabObj w rl bd ta tb n) ∈ news) (m3 : (rl, W.listOf its nl) ∈ news) (m4 : (bd, o) ∈ news) (hT : SymT w T its o l) (hx : x ∈ SIX) (lo : (bd == sysModules) = false)
    (ho : OwnOff l FY) (s4 : ∀ a ∈ [tab, dt, rl, bd], a ∈ FY) (hne : @Ne Nat rl bd) (hne1 : @Ne Nat rl tab) (hne2 : @Ne Nat rl dt) (hne3 : @Ne Nat bd tab) (hne4 : @Ne Nat bd dt)
    (hl : ∀ p ∈ l, p ∈ news) (hFY : ∀ b ∈ FY, ∃ o, (b, o) ∈ news) (h0 : ∀ p ∈ l0, p ∈ l) (R : RepF [rl, bd] l (fun r => r.l) (SymS rl bd) news g)
    (h : ∀ (r : SymR) h' tk', (r.T[r.i]? = some x) → (r.a, instObj 65 r.d) ∈ r.l → (r.d, symObj w (r.i : Nat) x r.q1 r.q2 r.q3 r.q4 r.q5) ∈ r.l → SymT w r.T r.its r.o r.l → T <+: r.T → (∀ p ∈ l0, p ∈ r.l) → OwnOff r.l FY → Fr h₀ L h' m → News h₀ L h' (g r) → Q (.ref r.a) { s with heap := h', toks := tk' }) :
    wpAny (model PG w) (top dp un gd env outer) (call (.ref 90) [.ref tab, .str x t]) Q E s :=
  sym_use (fix := [(tab, instObj 128 dt), (dt, tabObj w rl bd ta tb n), (rl, W.listOf its nl), (bd, o)]) (FX := [tab, dt, rl, bd]) (Pv := fun v r => v = .ref r.a ∧ SymG w x r)
    ((tsym_spec (t := t) hT hx lo (OwnOff.sub ho s4) hne hne1 hne2 hne3 hne4).post (Nat.le_refl _) (fun _ h => h) (fun v new ⟨r, a, b, c⟩ => ⟨r, ⟨a, c⟩, b⟩))
    B F X N T₀ hf hk hd hu (by
      intro p hp
      simp only [List.mem_cons, List.not_mem_nil, or_false] at hp
      rcases hp with rfl | rfl | rfl | rfl <;> assumption) hl (by
      intro p hp
      simp only [List.mem_cons, List.not_mem_nil, or_false] at hp
      rcases hp with rfl | rfl | rfl | rfl <;> simp) R ho hFY h0 (fun r v h' tk' hP t pr sb of F' N' => by
      obtain ⟨rfl, hg⟩ := hP
      exact h r h' tk' hg.at_ hg.inst hg.dict t pr sb of F' N')

set_option maxHeartbeats 2000000 in
theorem num_spec {w : World} {set sd tab dt rl bd : Addr} {es : List DictEntry} {ta tb t : Tok} {n n0 nl : Nat} {its : Array Value} {o : Obj} {T : List Str} {l : Led} {x : Str}
    (hset : getL (.ofString "table") es = some (some (.ref tab))) (hS : SymT w T its o l) (hx : x ∈ SIX) (lo : (bd == sysModules) = false) (hl : OwnOff l [set, sd, tab, dt, rl, bd]) (c1 : @LT.lt Nat _ sd set) (c2 : @LT.lt Nat _ set dt) (c3 : @LT.lt Nat _ dt tab) (c4 : @LT.lt Nat _ tab rl) (c5 : @LT.lt Nat _ rl bd) :
    Spec w 10 251 [.ref set, .str x t] ((set, instObj 598 sd) :: (sd, dictOf es n0) :: (tab, instObj 128 dt) :: (dt, tabObj w rl bd ta tb n) :: (rl, W.listOf its nl) :: (bd, o) :: l) [rl, bd]
      (fun v new => ∃ r : SymR, ((∃ t, v = .int (r.i : Nat) t) ∧ r.T[r.i]? = some x) ∧ SymP w T l [set, sd, tab, dt, rl, bd] rl bd new r) := by
  w_on
  intro dp un gd env outer A₀ base h₀ L m mean mg mb s Q E hB hF hK hN hT hfr hkd hdd hu hret
  refine wpAny_call ?_
  k_dflt k_enter
  (repeat' (first | (k_unfold; (try dsimp only)) | (k_end; first | kc_close | wrow_close) | ((with_reducible show wpAny _ _ (call _ _) _ _ _); (try dsimp only); first | ((with_reducible show wpAny _ _ (call (Value.ref 90) _) _ _ _); (k_dflt (apply tsym_use); walk_at "kz2"; (try dsimp only); (try k_sweep)))) | walk1 | (dsimp only; walk1) | (leave1; try dsimp only)))
  all_goals (refine' hret _ _ _ _ ?zp ?zf ?zn ?zk ?zr; (case zf => k_asm); (case zn => k_asm); (case zk => refine keep_mut (by k_asm) (by k_asm) hN (by k_asm) ?_; repeat' (first | (with_reducible refine fac ?_ ?_) | (with_reducible exact List.forall_mem_nil _) | exact Or.inr (by k_mem) | exact Or.inl (List.Mem.head _) | exact Or.inl (.tail _ (.head _)) | exact Or.inl (.tail _ (.tail _ (.head _))) | (intro p' hp'; refine Or.inr ?_; (repeat (with_reducible apply kfs5)); (repeat (refine List.Mem.tail _ ?_)); first | exact hp' | exact sub_at (by assumption) hp')))); (case zr => exact fresh_of (by k_asm) (by k_asm)); (case zp => exact ⟨_, ⟨⟨_, rfl⟩, by assumption⟩, ⟨by assumption, by assumption, by assumption, by assumption, by (intro p' hp'; (repeat (with_reducible apply kfs5)); (repeat (refine List.Mem.tail _ ?_)); exact hp'), by k_mem, by k_mem⟩⟩)

set_option maxHeartbeats 2000000 in
theorem nsym_spec {w : World} {set sd tab dt rl bd : Addr} {es : List DictEntry} {ta tb t : Tok} {n n0 nl : Nat} {its : Array Value} {o : Obj} {T : List Str} {l : Led} {x : Str}
    (hset : getL (.ofString "table") es = some (some (.ref tab))) (hS : SymT w T its o l) (hx : x ∈ SIX) (lo : (bd == sysModules) = false) (hl : OwnOff l [set, sd, tab, dt, rl, bd]) (c1 : @LT.lt Nat _ sd set) (c2 : @LT.lt Nat _ set dt) (c3 : @LT.lt Nat _ dt tab) (c4 : @LT.lt Nat _ tab rl) (c5 : @LT.lt Nat _ rl bd) :
    Spec w 10 244 [.ref set, .str x t] ((set, instObj 598 sd) :: (sd, dictOf es n0) :: (tab, instObj 128 dt) :: (dt, tabObj w rl bd ta tb n) :: (rl, W.listOf its nl) :: (bd, o) :: l) [rl, bd]
      (fun v new => ∃ r : SymR, (v = .ref r.a ∧ SymG w x r) ∧ SymP w T l [set, sd, tab, dt, rl, bd] rl bd new r) := by
  w_on
  intro dp un gd env outer A₀ base h₀ L m mean mg mb s Q E hB hF hK hN hT hfr hkd hdd hu hret
  refine wpAny_call ?_
  k_dflt k_enter
  (repeat' (first | (k_unfold; (try dsimp only)) | (k_end; first | kc_close | wrow_close) | ((with_reducible show wpAny _ _ (call _ _) _ _ _); (try dsimp only); first | ((with_reducible show wpAny _ _ (call (Value.ref 90) _) _ _ _); (k_dflt (apply tsym_use); walk_at "kz2"; (try dsimp only); (try k_sweep)))) | walk1 | (dsimp only; walk1) | (leave1; try dsimp only)))
  all_goals (refine' hret _ _ _ _ ?zp ?zf ?zn ?zk ?zr; (case zf => k_asm); (case zn => k_asm); (case zk => refine keep_mut (by k_asm) (by k_asm) hN (by k_asm) ?_; repeat' (first | (with_reducible refine fac ?_ ?_) | (with_reducible exact List.forall_mem_nil _) | exact Or.inr (by k_mem) | exact Or.inl (List.Mem.head _) | exact Or.inl (.tail _ (.head _)) | exact Or.inl (.tail _ (.tail _ (.head _))) | (intro p' hp'; refine Or.inr ?_; (repeat (with_reducible apply kfs5)); (repeat (refine List.Mem.tail _ ?_)); first | exact hp' | exact sub_at (by assumption) hp')))); (case zr => exact fresh_of (by k_asm) (by k_asm)); (case zp => exact ⟨_, ⟨rfl, ⟨by assumption, by assumption, by assumption⟩⟩, ⟨by assumption, by assumption, by assumption, by assumption, by (intro p' hp'; (repeat (with_reducible apply kfs5)); (repeat (refine List.Mem.tail _ ?_)); exact hp'), by k_mem, by k_mem⟩⟩)


set_option maxHeartbeats 2000000 in
theorem opat_spec {w : World} {set sd op : Addr} {es : List DictEntry} {n0 : Nat} {o : Obj} {kvs : List (Int × Value)} {i : Int} {t : Tok} {ox : Option Value}
    (hset : getL (.ofString "ops") es = some (some (.ref op))) (hd : o.IsDictOf (IK w) kvs) (hv : valueAt kvs i = ox) (lo : (op == sysModules) = false) :
    Spec w 4 286 [.ref set, .int i t] [(set, instObj 598 sd), (sd, dictOf es n0), (op, o)] [] (fun v new => ∃ t, v = ox.getD (.int (-1) t)) := by
  w_on
  intro dp un gd env outer A₀ base h₀ L m mean mg mb s Q E hB hF hK hN hT hfr hkd hdd hu hret
  refine wpAny_call ?_
  k_dflt k_enter
  (repeat' (first | (k_unfold; (try dsimp only)) | (k_end; first | kc_close | wrow_close) | ((with_reducible show wpAny _ _ (call _ _) _ _ _); (try dsimp only); first | ((with_reducible show wpAny _ _ (call (Value.builtin "dict.get") _) _ _ _); k_dflt (first | (refine kdg_get2 (knd := PySem.strKind _ _) (by k_asm) (by k_mem) (by k_asm) (by k_asm) (strKind_is _ _ _ _) _ (by assumption) ?_) | (refine kdg_get2 (knd := intKind _ _) (by k_asm) (by k_mem) (by k_asm) (by k_asm) (intKind_is _ _ _ _) _ (by assumption) ?_)); (try dsimp only [Option.getD]))) | walk1 | (dsimp only; walk1) | (leave1; try dsimp only)))
  all_goals (refine' hret _ _ _ _ ?zp ?zf ?zn ?zk ?zr; (case zf => k_asm); (case zn => k_asm); (case zk => refine keep_mut (by k_asm) (by k_asm) hN (by k_asm) ?_; repeat' (first | (with_reducible refine fac ?_ ?_) | (with_reducible exact List.forall_mem_nil _) | exact Or.inr (by k_mem) | exact Or.inl (List.Mem.head _) | exact Or.inl (.tail _ (.head _)) | exact Or.inl (.tail _ (.tail _ (.head _)))))); (case zr => exact fresh_of (by k_asm) (by k_asm)); (case zp => exact ⟨_, rfl⟩)

set_option maxHeartbeats 2000000 in
theorem title_spec {w : World} {set sd ti : Addr} {es : List DictEntry} {n0 : Nat} {o : Obj} {kvs : List (Int × Value)} {i : Int} {t : Tok} {ox : Option Value}
    (hset : getL (.ofString "titles") es = some (some (.ref ti))) (hd : o.IsDictOf (IK w) kvs) (hv : valueAt kvs i = ox) (lo : (ti == sysModules) = false) :
    Spec w 4 272 [.ref set, .int i t] [(set, instObj 598 sd), (sd, dictOf es n0), (ti, o)] [] (fun v new => ∃ t, v = ox.getD (.str (.ofString "") t)) := by
  w_on
  intro dp un gd env outer A₀ base h₀ L m mean mg mb s Q E hB hF hK hN hT hfr hkd hdd hu hret
  refine wpAny_call ?_
  k_dflt k_enter
  (repeat' (first | (k_unfold; (try dsimp only)) | (k_end; first | kc_close | wrow_close) | ((with_reducible show wpAny _ _ (call _ _) _ _ _); (try dsimp only); first | ((with_reducible show wpAny _ _ (call (Value.builtin "dict.get") _) _ _ _); k_dflt (first | (refine kdg_get2 (knd := PySem.strKind _ _) (by k_asm) (by k_mem) (by k_asm) (by k_asm) (strKind_is _ _ _ _) _ (by assumption) ?_) | (refine kdg_get2 (knd := intKind _ _) (by k_asm) (by k_mem) (by k_asm) (by k_asm) (intKind_is _ _ _ _) _ (by assumption) ?_)); (try dsimp only [Option.getD]))) | walk1 | (dsimp only; walk1) | (leave1; try dsimp only)))
  all_goals (refine' hret _ _ _ _ ?zp ?zf ?zn ?zk ?zr; (case zf => k_asm); (case zn => k_asm); (case zk => refine keep_mut (by k_asm) (by k_asm) hN (by k_asm) ?_; repeat' (first | (with_reducible refine fac ?_ ?_) | (with_reducible exact List.forall_mem_nil _) | exact Or.inr (by k_mem) | exact Or.inl (List.Mem.head _) | exact Or.inl (.tail _ (.head _)) | exact Or.inl (.tail _ (.tail _ (.head _)))))); (case zr => exact fresh_of (by k_asm) (by k_asm)); (case zp => exact ⟨_, rfl⟩)

set_option maxHeartbeats 2000000 in
theorem textof_spec {w : World} {set sd tab dt rl bd a d : Addr} {es : List DictEntry} {n0 n nl q5 : Nat} {ta tb t q1 q2 q3 q4 : Tok} {its : Array Value} {i : Int} {x : Str}
    (hset : getL (.ofString "table") es = some (some (.ref tab))) (h0 : 0 ≤ i) (h1 : i < 100000) (hx : its[i.toNat]? = some (.ref a)) :
    Spec w 8 258 [.ref set, .int i t] [(set, instObj 598 sd), (sd, dictOf es n0), (tab, instObj 128 dt), (dt, tabObj w rl bd ta tb n), (rl, W.listOf its nl), (a, instObj 65 d), (d, symObj w i x q1 q2 q3 q4 q5)] [] (fun v new => ∃ t, v = .str x t) := by
  w_on
  intro dp un gd env outer A₀ base h₀ L m mean mg mb s Q E hB hF hK hN hT hfr hkd hdd hu hret
  refine wpAny_call ?_
  k_dflt k_enter
  (repeat' (first | (k_unfold; (try dsimp only)) | (k_end; first | kc_close | wrow_close) | ((with_reducible show wpAny _ _ (subscriptTail _ _ _ _) _ _ _); (try dsimp only); first | ((with_reducible show wpAny _ _ (subscriptTail _ _ (Value.ref _) (Value.int _ _)) _ _ _); k_dflt (refine' item_M ?k1 ?k2 ?k4 ?k5 ?k3 ?_ ?k6; (case k1 => k_asm); (case k2 => k_mem); (case k3 => assumption); (case k4 => first | with_reducible assumption | omega); (case k5 => first | with_reducible assumption | omega); (case k6 => with_unfolding_all rfl); k_whole))) | walk1 | (dsimp only; walk1) | (leave1; try dsimp only)))
  all_goals (refine' hret _ _ _ _ ?zp ?zf ?zn ?zk ?zr; (case zf => k_asm); (case zn => k_asm); (case zk => refine keep_mut (by k_asm) (by k_asm) hN (by k_asm) ?_; repeat' (first | (with_reducible refine fac ?_ ?_) | (with_reducible exact List.forall_mem_nil _) | exact Or.inr (by k_mem) | exact Or.inl (List.Mem.head _) | exact Or.inl (.tail _ (.head _)) | exact Or.inl (.tail _ (.tail _ (.head _)))))); (case zr => exact fresh_of (by k_asm) (by k_asm)); (case zp => exact ⟨_, rfl⟩)

set_option maxHeartbeats 2000000 in
theorem settitle_old {w : World} {set sd ti : Addr} {es : List DictEntry} {n0 : Nat} {o : Obj} {kvs : List (Int × Value)} {i : Int} {x : Str} {t u : Tok}
    (hset : getL (.ofString "titles") es = some (some (.ref ti))) (hd : o.IsDictOf (IK w) kvs) (hv : (valueAt kvs i).isSome = true) (lo : (ti == sysModules) = false) (hz : kvs.length ≤ 1000) (e1 : @Ne Nat set ti) (e2 : @Ne Nat sd ti) :
    Spec w 4 265 [.ref set, .int i t, .str x u] [(set, instObj 598 sd), (sd, dictOf es n0), (ti, o)] [] (fun v new => v = .none ∧ True) := by
  w_on
  intro dp un gd env outer A₀ base h₀ L m mean mg mb s Q E hB hF hK hN hT hfr hkd hdd hu hret
  refine wpAny_call ?_
  k_dflt k_enter
  (repeat' (first | (k_unfold; (try dsimp only)) | (k_end; first | kc_close | wrow_close) | ((with_reducible show wpAny _ _ (compareOp _ _ _) _ _ _); (try dsimp only); first | ((with_reducible show wpAny _ _ (compareOp CmpOp.NotIn _ _) _ _ _); (k_dflt (refine kdg_notin (knd := intKind _ _) (by k_asm) (by k_mem) (by k_asm) (by k_asm) (intKind_is _ _ _ _) _ (by assumption) ?_); (try dsimp only [Bool.not_true, Bool.not_false])))) | walk1 | (dsimp only; walk1) | (leave1; try dsimp only)))
  all_goals (refine' hret _ _ _ _ ?zp ?zf ?zn ?zk ?zr; (case zf => k_asm); (case zn => k_asm); (case zk => refine keep_mut (by k_asm) (by k_asm) hN (by k_asm) ?_; repeat' (first | (with_reducible refine fac ?_ ?_) | (with_reducible exact List.forall_mem_nil _) | exact Or.inr (by k_mem) | exact Or.inl (List.Mem.head _) | exact Or.inl (.tail _ (.head _)) | exact Or.inl (.tail _ (.tail _ (.head _)))))); (case zr => exact fresh_of (by k_asm) (by k_asm)); (case zp => exact ⟨rfl, trivial⟩)

set_option maxHeartbeats 2000000 in
theorem settitle_new {w : World} {set sd ti : Addr} {es : List DictEntry} {n0 : Nat} {o : Obj} {kvs : List (Int × Value)} {i : Int} {x : Str} {t u : Tok}
    (hset : getL (.ofString "titles") es = some (some (.ref ti))) (hd : o.IsDictOf (IK w) kvs) (hv : (valueAt kvs i).isSome = false) (lo : (ti == sysModules) = false) (hz : kvs.length ≤ 1000) (e1 : @Ne Nat set ti) (e2 : @Ne Nat sd ti) :
    Spec w 4 265 [.ref set, .int i t, .str x u] [(set, instObj 598 sd), (sd, dictOf es n0), (ti, o)] [ti] (fun v new => v = .none ∧ ∃ o', o'.IsDictOf (IK w) (stored kvs i (.str x u)) ∧ (ti, o') ∈ new) := by
  w_on
  intro dp un gd env outer A₀ base h₀ L m mean mg mb s Q E hB hF hK hN hT hfr hkd hdd hu hret
  refine wpAny_call ?_
  k_dflt k_enter
  (repeat' (first | (k_unfold; (try dsimp only)) | (k_end; first | kc_close | wrow_close) | ((with_reducible show wpAny _ _ (setItem _ _ _) _ _ _); (try dsimp only); first | ((with_reducible show wpAny _ _ (setItem (Value.ref _) _ _) _ _ _); k_dflt (first | (refine' kda_set (knd := PySem.strKind _ _) ?k1 ?k2 ?k3 ?k4 (strKind_is _ _ _ _) ?k5 ?_; (case k1 => k_asm); (case k2 => k_asm); (case k3 => k_updF); (case k4 => k_asm); (case k5 => exact small_line (by assumption)); k_whole) | (refine' kda_set (knd := intKind _ _) ?k1 ?k2 ?k3 ?k4 (intKind_is _ _ _ _) ?k5 ?_; (case k1 => k_asm); (case k2 => k_asm); (case k3 => k_updF); (case k4 => k_asm); (case k5 => exact small_line (by assumption)); k_whole)); walk_at "kq3"; (try k_sweep))) | ((with_reducible show wpAny _ _ (compareOp _ _ _) _ _ _); (try dsimp only); first | ((with_reducible show wpAny _ _ (compareOp CmpOp.NotIn _ _) _ _ _); (k_dflt (refine kdg_notin (knd := intKind _ _) (by k_asm) (by k_mem) (by k_asm) (by k_asm) (intKind_is _ _ _ _) _ (by assumption) ?_); (try dsimp only [Bool.not_true, Bool.not_false])))) | walk1 | (dsimp only; walk1) | (leave1; try dsimp only)))
  all_goals (refine' hret _ _ _ _ ?zp ?zf ?zn ?zk ?zr; (case zf => k_asm); (case zn => k_asm); (case zk => refine keep_mut (by k_asm) (by k_asm) hN (by k_asm) ?_; repeat' (first | (with_reducible refine fac ?_ ?_) | (with_reducible exact List.forall_mem_nil _) | exact Or.inr (by k_mem) | exact Or.inl (List.Mem.head _) | exact Or.inl (.tail _ (.head _)) | exact Or.inl (.tail _ (.tail _ (.head _)))))); (case zr => exact fresh_of (by k_asm) (by k_asm)); (case zp => exact ⟨rfl, _, by assumption, by k_mem⟩)


structure SZ where
  a1 : Tok
  a2 : Tok
  a3 : Tok
  a4 : Tok
  a5 : Tok
  a6 : Tok
  a7 : Tok
  a8 : Tok
  a9 : Tok
  b1 : Tok
  b2 : Tok
noncomputable abbrev setObj (w : World) (tab ti op pt : Addr) (f : Int) (tf : Tok) (z : SZ) : Obj := dictOf [⟨PyData.keyHash w.params (.ofString "table"), .str (.ofString "table") z.a1, .ref tab⟩, ⟨PyData.keyHash w.params (.ofString "last"), .str (.ofString "last") z.a2, .int f tf⟩, ⟨PyData.keyHash w.params (.ofString "titles"), .str (.ofString "titles") z.a3, .ref ti⟩, ⟨PyData.keyHash w.params (.ofString "ops"), .str (.ofString "ops") z.a4, .ref op⟩, ⟨PyData.keyHash w.params (.ofString "root"), .str (.ofString "root") z.a5, .none⟩, ⟨PyData.keyHash w.params (.ofString "precision"), .str (.ofString "precision") z.a6, .int 8 z.b1⟩, ⟨PyData.keyHash w.params (.ofString "patience"), .str (.ofString "patience") z.a7, .int 50 z.b2⟩, ⟨PyData.keyHash w.params (.ofString "ports"), .str (.ofString "ports") z.a8, .ref pt⟩, ⟨PyData.keyHash w.params (.ofString "tower"), .str (.ofString "tower") z.a9, .none⟩] 9

set_option maxHeartbeats 2000000 in
theorem fresh_spec {w : World} {set sd tab ti op pt : Addr} {f : Int} {tf : Tok} {z : SZ} (h0 : 0 ≤ f) (h1 : f < 100000) (c1 : @LT.lt Nat _ sd set) :
    Spec w 2 237 [.ref set] [(set, instObj 598 sd), (sd, setObj w tab ti op pt f tf z)] [sd] (fun v new => ∃ tf', v = .int (f + 1) tf' ∧ ∃ tf'', (sd, setObj w tab ti op pt (f + 1) tf'' z) ∈ new) := by
  w_on
  intro dp un gd env outer A₀ base h₀ L m mean mg mb s Q E hB hF hK hN hT hfr hkd hdd hu hret
  refine wpAny_call ?_
  k_dflt k_enter
  (repeat' (first | (k_unfold; (try dsimp only)) | (k_end; first | kc_close | wrow_close) | ((with_reducible show wpAny _ _ (call _ _) _ _ _); (try dsimp only); first | ((with_reducible show wpAny _ _ (call (Value.builtin "dict.get") _) _ _ _); k_dflt (first | (refine kdg_get2 (knd := PySem.strKind _ _) (by k_asm) (by k_mem) (by k_asm) (by k_asm) (strKind_is _ _ _ _) _ (by assumption) ?_) | (refine kdg_get2 (knd := intKind _ _) (by k_asm) (by k_mem) (by k_asm) (by k_asm) (intKind_is _ _ _ _) _ (by assumption) ?_)); (try dsimp only [Option.getD])) | ((with_reducible show wpAny _ _ (call (Value.builtin "len") [Value.ref _]) _ _ _); k_dflt (refine' len_M ?k1 ?k2 ?k3 ?_; (case k1 => k_asm); (case k2 => k_mem); (case k3 => first | assumption | (simp only [Array.size_push]; omega)); k_whole); (try dsimp only)) | ((try dsimp only [List.nil_append, List.cons_append]); (with_reducible show wpAny _ _ (call (Value.builtin "list.append") [Value.ref _, _]) _ _ _); k_dflt (refine' append_M ?k1 ?k2 ?k3 ?z ?_; (case k1 => k_asm); (case k2 => k_asm); (case k3 => k_upd); (case z => first | assumption | omega); k_whole); intros; (try k_sweep)) | ((try dsimp only [List.nil_append, List.cons_append]); (with_reducible show wpAny _ _ (call (Value.builtin "list.extend") [Value.ref _, Value.ref _]) _ _ _); k_dflt (refine' extend_M ?k1 ?k2 ?k4 ?k3 ?z ?_; (case k1 => k_asm); (case k2 => k_asm); (case k4 => k_mem); (case k3 => k_upd); (case z => first | assumption | omega); k_whole); intros; (try k_sweep))) | ((with_reducible show wpAny _ _ (subscriptTail _ _ _ _) _ _ _); (try dsimp only); first | ((with_reducible show wpAny _ _ (subscriptTail _ _ (Value.ref _) (Value.int _ _)) _ _ _); k_dflt (refine' item_M ?k1 ?k2 ?k4 ?k5 ?k3 ?_ ?k6; (case k1 => k_asm); (case k2 => k_mem); (case k3 => assumption); (case k4 => first | with_reducible assumption | omega); (case k5 => first | with_reducible assumption | omega); (case k6 => with_unfolding_all rfl); k_whole))) | ((with_reducible show wpAny _ _ (setItem _ _ _) _ _ _); (try dsimp only); first | ((with_reducible show wpAny _ _ (setItem (Value.ref _) _ _) _ _ _); k_dflt (first | (refine' kda_set (knd := PySem.strKind _ _) ?k1 ?k2 ?k3 ?k4 (strKind_is _ _ _ _) ?k5 ?_; (case k1 => k_asm); (case k2 => k_asm); (case k3 => k_updF); (case k4 => k_asm); (case k5 => exact small_line (by assumption)); k_whole) | (refine' kda_set (knd := intKind _ _) ?k1 ?k2 ?k3 ?k4 (intKind_is _ _ _ _) ?k5 ?_; (case k1 => k_asm); (case k2 => k_asm); (case k3 => k_updF); (case k4 => k_asm); (case k5 => exact small_line (by assumption)); k_whole)); walk_at "kq3"; (try k_sweep))) | ((with_reducible show wpAny _ _ (eval (PySem.Expr.Dict _ _ _) _) _ _ _); k_dflt (refine' newDict_K ?k1 ?k2 ?k3 ?_; (case k1 => k_asm); (case k2 => k_asm); (case k3 => exact TopRead.nolimit (by k_asm)); k_whole); intros; (try k_sweep)) | walk1 | (dsimp only; walk1) | (leave1; try dsimp only)))
  all_goals (refine' hret _ _ _ _ ?zp ?zf ?zn ?zk ?zr; (case zf => k_asm); (case zn => k_asm); (case zk => refine keep_mut (by k_asm) (by k_asm) hN (by k_asm) ?_; repeat' (first | (with_reducible refine fac ?_ ?_) | (with_reducible exact List.forall_mem_nil _) | exact Or.inr (by k_mem) | exact Or.inl (List.Mem.head _) | exact Or.inl (.tail _ (.head _)) | exact Or.inl (.tail _ (.tail _ (.head _)))))); (case zr => exact fresh_of (by k_asm) (by k_asm)); (case zp => exact ⟨_, rfl, _, by k_mem⟩)

theorem settitle_spec {w : World} {set sd ti : Addr} {es : List DictEntry} {n0 : Nat} {o : Obj} {kvs : List (Int × Value)} {i : Int} {x : Str} {t u : Tok}
    (hset : getL (.ofString "titles") es = some (some (.ref ti))) (hd : o.IsDictOf (IK w) kvs) (lo : (ti == sysModules) = false) (hz : kvs.length ≤ 1000) (e1 : @Ne Nat set ti) (e2 : @Ne Nat sd ti) :
    Spec w 4 265 [.ref set, .int i t, .str x u] [(set, instObj 598 sd), (sd, dictOf es n0), (ti, o)] [ti] (fun v new => v = .none ∧ ∃ o', o'.IsDictOf (IK w) (sdef kvs i (.str x u)) ∧ (ti, o') ∈ new) := by
  cases hv : valueAt kvs i with
  | none =>
    refine (settitle_new (t := t) hset hd (by rw [hv]; rfl) lo hz e1 e2).post (Nat.le_refl _) (fun _ h => h) ?_
    rintro v new ⟨rfl, o', hd', hm⟩
    rw [stored_absent hv] at hd'
    exact ⟨rfl, o', by unfold sdef; rw [hv]; exact hd', hm⟩
  | some y =>
    have fr := (settitle_old (n0 := n0) (t := t) (u := u) (x := x) hset hd (by rw [hv]; rfl) lo hz e1 e2)
    intro dp un gd env outer A₀ base h₀ L m mean mg mb s Q E B F X N T hf hk hdd hu hret
    refine fr dp un gd env outer A₀ base h₀ L m mean mg mb s Q E B F X N T hf hk hdd hu (fun v new h' tk' hP F' N' K' Y' => ?_)
    have N1 : News h₀ L h' [(set, instObj 598 sd), (sd, dictOf es n0), (ti, o)] := News.over N K' fun _ _ h => nomatch h
    exact hret v _ h' tk' ⟨hP.1, o, by unfold sdef; rw [hv]; exact hd, by simp⟩ F' N1 (fun b o e _ => K' b o e fun h => nomatch h) (fun p hp hn => absurd (List.mem_map.mpr ⟨p, hp, rfl⟩) hn)

theorem draw_use {w : World} {dk ce : Addr} {k many : Int} {t u : Tok} {n nc : Nat} {ws : List Value} {ns : List Int}
    {dp un : Nat} {gd : Option (List Code)} {env : Env} {outer : List Env} {A₀ : Around} {base h₀ : Heap} {L : Addr} {m : Str → Option Value} {mean : ExcName → Option Value} {mg mb : Str → Option Value} {s : Shared} {Q E : Value → Shared → Prop} {news : Led} {g : (Tok × Nat) → Led}
    (B : Below A₀ base outer h₀) (F : Fr h₀ L s.heap m) (X : (KF w.params).In h₀) (N : News h₀ L s.heap news) (T : Top q LZ mean mg mb h₀) (hf : env.frame = some L) (hk : env.scope.kind = .function) (hd : dp + 2 < recursionLimit) (hu : un + 8 * 2 < cLine)
    (m1 : (dk, W.listOf #[.ref ce, .int k t] n) ∈ news) (m2 : (ce, W.listOf ws.toArray nc) ∈ news) (hi : IntsAre ws ns) (hlo : 1 ≤ ns.length) (hhi : ns.length ≤ 41) (hb : ∀ x ∈ ns, 0 ≤ x ∧ x ≤ 1000003) (hk0 : 0 ≤ k) (hk1 : k ≤ 100000) (hm0 : 1 ≤ many) (hm1 : many ≤ 1000) (hne : @Ne Nat dk ce)
    (R : RepF [dk] [] (fun _ => []) [(dk, fun r => W.listOf #[.ref ce, .int (k + 1) r.1] r.2)] news g)
    (h : ∀ (r : (Tok × Nat)) (i : Int) (t' : Tok) h' tk', 0 ≤ i → i < many → Fr h₀ L h' m → News h₀ L h' (g r) → Q (.int i t') { s with heap := h', toks := tk' }) :
    wpAny (model PG w) (top dp un gd env outer) (call (.ref 984) [.ref dk, .int many u]) Q E s :=
  (draw_spec (k := k) (many := many) (t := t) (u := u) (n := n) (nc := nc) hi hlo hhi hb hk0 hk1 hm0 hm1 hne).use (ρ := (Tok × Nat)) (l := []) (fl := fun _ => []) (S := [(dk, fun r => W.listOf #[.ref ce, .int (k + 1) r.1] r.2)]) (FX := []) (fun r v => ∃ (i : Int) (t' : Tok), v = .int i t' ∧ 0 ≤ i ∧ i < many) B F X N T hf hk hd hu (by
    intro p hp
    simp only [List.mem_cons, List.not_mem_nil, or_false] at hp
    rcases hp with rfl | rfl <;> assumption) (fun _ hp => nomatch hp) R (fun _ hp => nomatch hp) (fun _ hp => nomatch hp) (by
    rintro v new ⟨i, t', t'', n', rfl, h1, h2, rfl⟩
    exact ⟨(t'', n'), ⟨i, t', rfl, h1, h2⟩, fun e he => by rw [List.mem_singleton.mp he]; exact .head _, fun _ hp => nomatch hp⟩) (by
    rintro r v h' tk' ⟨i, t', rfl, h1, h2⟩ F' N' _
    exact h r i t' h' tk' h1 h2 F' N')

theorem fresh_use {w : World} {set sd tab ti op pt : Addr} {f : Int} {tf : Tok} {z : SZ}
    {dp un : Nat} {gd : Option (List Code)} {env : Env} {outer : List Env} {A₀ : Around} {base h₀ : Heap} {L : Addr} {m : Str → Option Value} {mean : ExcName → Option Value} {mg mb : Str → Option Value} {s : Shared} {Q E : Value → Shared → Prop} {news : Led} {g : Tok → Led}
    (B : Below A₀ base outer h₀) (F : Fr h₀ L s.heap m) (X : (KF w.params).In h₀) (N : News h₀ L s.heap news) (T : Top q LZ mean mg mb h₀) (hf : env.frame = some L) (hk : env.scope.kind = .function) (hd : dp + 2 < recursionLimit) (hu : un + 8 * 2 < cLine)
    (m1 : (set, instObj 598 sd) ∈ news) (m2 : (sd, setObj w tab ti op pt f tf z) ∈ news) (h0 : 0 ≤ f) (h1 : f < 100000) (c1 : @LT.lt Nat _ sd set)
    (R : RepF [sd] [] (fun _ => []) [(sd, fun r => setObj w tab ti op pt (f + 1) r z)] news g)
    (h : ∀ (r : Tok) (t' : Tok) h' tk', Fr h₀ L h' m → News h₀ L h' (g r) → Q (.int (f + 1) t') { s with heap := h', toks := tk' }) :
    wpAny (model PG w) (top dp un gd env outer) (call (.ref 237) [.ref set]) Q E s :=
  (fresh_spec (tab := tab) (ti := ti) (op := op) (pt := pt) (tf := tf) (z := z) h0 h1 c1).use (ρ := Tok) (l := []) (fl := fun _ => []) (S := [(sd, fun r => setObj w tab ti op pt (f + 1) r z)]) (FX := []) (fun r v => ∃ t', v = .int (f + 1) t') B F X N T hf hk hd hu (by
    intro p hp
    simp only [List.mem_cons, List.not_mem_nil, or_false] at hp
    rcases hp with rfl | rfl <;> assumption) (fun _ hp => nomatch hp) R (fun _ hp => nomatch hp) (fun _ hp => nomatch hp) (by
    rintro v new ⟨tf', rfl, tf'', hm⟩
    exact ⟨tf'', ⟨_, rfl⟩, fun e he => by rw [List.mem_singleton.mp he]; exact hm, fun _ hp => nomatch hp⟩) (by
    rintro r v h' tk' ⟨t', rfl⟩ F' N' _
    exact h r t' h' tk' F' N')

theorem settitle_use {w : World} {set sd ti : Addr} {es : List DictEntry} {n0 : Nat} {o : Obj} {kvs : List (Int × Value)} {i : Int} {x : Str} {t u : Tok}
    {dp un : Nat} {gd : Option (List Code)} {env : Env} {outer : List Env} {A₀ : Around} {base h₀ : Heap} {L : Addr} {m : Str → Option Value} {mean : ExcName → Option Value} {mg mb : Str → Option Value} {s : Shared} {Q E : Value → Shared → Prop} {news : Led} {g : Obj → Led}
    (B : Below A₀ base outer h₀) (F : Fr h₀ L s.heap m) (X : (KF w.params).In h₀) (N : News h₀ L s.heap news) (T : Top q LZ mean mg mb h₀) (hf : env.frame = some L) (hk : env.scope.kind = .function) (hd : dp + 4 < recursionLimit) (hu : un + 8 * 4 < cLine)
    (m1 : (set, instObj 598 sd) ∈ news) (m2 : (sd, dictOf es n0) ∈ news) (m3 : (ti, o) ∈ news) (hset : getL (.ofString "titles") es = some (some (.ref ti))) (hdo : o.IsDictOf (IK w) kvs) (lo : (ti == sysModules) = false) (hz : kvs.length ≤ 1000) (e1 : @Ne Nat set ti) (e2 : @Ne Nat sd ti)
    (R : RepF [ti] [] (fun _ => []) [(ti, fun r => r)] news g)
    (h : ∀ (r : Obj)  h' tk', r.IsDictOf (IK w) (sdef kvs i (.str x u)) → Fr h₀ L h' m → News h₀ L h' (g r) → Q .none { s with heap := h', toks := tk' }) :
    wpAny (model PG w) (top dp un gd env outer) (call (.ref 265) [.ref set, .int i t, .str x u]) Q E s :=
  (settitle_spec (t := t) (u := u) (x := x) (i := i) hset hdo lo hz e1 e2).use (ρ := Obj) (l := []) (fl := fun _ => []) (S := [(ti, fun r => r)]) (FX := []) (fun r v => v = .none ∧ Obj.IsDictOf (IK w) r (sdef kvs i (.str x u))) B F X N T hf hk hd hu (by
    intro p hp
    simp only [List.mem_cons, List.not_mem_nil, or_false] at hp
    rcases hp with rfl | rfl | rfl <;> assumption) (fun _ hp => nomatch hp) R (fun _ hp => nomatch hp) (fun _ hp => nomatch hp) (by
    rintro v new ⟨rfl, o', hd', hm⟩
    exact ⟨o', ⟨rfl, hd'⟩, fun e he => by rw [List.mem_singleton.mp he]; exact hm, fun _ hp => nomatch hp⟩) (by
    rintro r v h' tk' ⟨rfl, hd'⟩ F' N' _
    exact h r h' tk' hd' F' N')

theorem opat_use {w : World} {set sd op : Addr} {es : List DictEntry} {n0 : Nat} {o : Obj} {kvs : List (Int × Value)} {i : Int} {t : Tok} {ox : Option Value}
    {dp un : Nat} {gd : Option (List Code)} {env : Env} {outer : List Env} {A₀ : Around} {base h₀ : Heap} {L : Addr} {m : Str → Option Value} {mean : ExcName → Option Value} {mg mb : Str → Option Value} {s : Shared} {Q E : Value → Shared → Prop} {news : Led}
    (B : Below A₀ base outer h₀) (F : Fr h₀ L s.heap m) (X : (KF w.params).In h₀) (N : News h₀ L s.heap news) (T : Top q LZ mean mg mb h₀) (hf : env.frame = some L) (hk : env.scope.kind = .function) (hd : dp + 4 < recursionLimit) (hu : un + 8 * 4 < cLine)
    (m1 : (set, instObj 598 sd) ∈ news) (m2 : (sd, dictOf es n0) ∈ news) (m3 : (op, o) ∈ news) (hset : getL (.ofString "ops") es = some (some (.ref op))) (hdo : o.IsDictOf (IK w) kvs) (hv : valueAt kvs i = ox) (lo : (op == sysModules) = false)
    (h : ∀ t' h' tk', Fr h₀ L h' m → News h₀ L h' news → Q (ox.getD (.int (-1) t')) { s with heap := h', toks := tk' }) :
    wpAny (model PG w) (top dp un gd env outer) (call (.ref 286) [.ref set, .int i t]) Q E s :=
  (opat_spec (t := t) hset hdo hv lo) dp un gd env outer A₀ base h₀ L m mean mg mb s Q E B F X (by
    intro p hp
    simp only [List.mem_cons, List.not_mem_nil, or_false] at hp
    rcases hp with rfl | rfl | rfl <;> exact N _ (by assumption)) T hf hk hd hu (fun v new h' tk' hP F' _ K' _ => by
    obtain ⟨t', rfl⟩ := hP
    exact h t' h' tk' F' (News.over N K' fun _ _ h => nomatch h))

theorem title_use {w : World} {set sd ti : Addr} {es : List DictEntry} {n0 : Nat} {o : Obj} {kvs : List (Int × Value)} {i : Int} {t : Tok} {ox : Option Value}
    {dp un : Nat} {gd : Option (List Code)} {env : Env} {outer : List Env} {A₀ : Around} {base h₀ : Heap} {L : Addr} {m : Str → Option Value} {mean : ExcName → Option Value} {mg mb : Str → Option Value} {s : Shared} {Q E : Value → Shared → Prop} {news : Led}
    (B : Below A₀ base outer h₀) (F : Fr h₀ L s.heap m) (X : (KF w.params).In h₀) (N : News h₀ L s.heap news) (T : Top q LZ mean mg mb h₀) (hf : env.frame = some L) (hk : env.scope.kind = .function) (hd : dp + 4 < recursionLimit) (hu : un + 8 * 4 < cLine)
    (m1 : (set, instObj 598 sd) ∈ news) (m2 : (sd, dictOf es n0) ∈ news) (m3 : (ti, o) ∈ news) (hset : getL (.ofString "titles") es = some (some (.ref ti))) (hdo : o.IsDictOf (IK w) kvs) (hv : valueAt kvs i = ox) (lo : (ti == sysModules) = false)
    (h : ∀ t' h' tk', Fr h₀ L h' m → News h₀ L h' news → Q (ox.getD (.str (.ofString "") t')) { s with heap := h', toks := tk' }) :
    wpAny (model PG w) (top dp un gd env outer) (call (.ref 272) [.ref set, .int i t]) Q E s :=
  (title_spec (t := t) hset hdo hv lo) dp un gd env outer A₀ base h₀ L m mean mg mb s Q E B F X (by
    intro p hp
    simp only [List.mem_cons, List.not_mem_nil, or_false] at hp
    rcases hp with rfl | rfl | rfl <;> exact N _ (by assumption)) T hf hk hd hu (fun v new h' tk' hP F' _ K' _ => by
    obtain ⟨t', rfl⟩ := hP
    exact h t' h' tk' F' (News.over N K' fun _ _ h => nomatch h))

theorem textof_use {w : World} {set sd tab dt rl bd a d : Addr} {es : List DictEntry} {n0 n nl q5 : Nat} {ta tb t q1 q2 q3 q4 : Tok} {its : Array Value} {i : Int} {x : Str}
    {dp un : Nat} {gd : Option (List Code)} {env : Env} {outer : List Env} {A₀ : Around} {base h₀ : Heap} {L : Addr} {m : Str → Option Value} {mean : ExcName → Option Value} {mg mb : Str → Option Value} {s : Shared} {Q E : Value → Shared → Prop} {news : Led}
    (B : Below A₀ base outer h₀) (F : Fr h₀ L s.heap m) (X : (KF w.params).In h₀) (N : News h₀ L s.heap news) (T : Top q LZ mean mg mb h₀) (hf : env.frame = some L) (hk : env.scope.kind = .function) (hd : dp + 8 < recursionLimit) (hu : un + 8 * 8 < cLine)
    (m1 : (set, instObj 598 sd) ∈ news) (m2 : (sd, dictOf es n0) ∈ news) (m3 : (tab, instObj 128 dt) ∈ news) (m4 : (dt, tabObj w rl bd ta tb n) ∈ news) (m5 : (rl, W.listOf its nl) ∈ news) (m6 : (a, instObj 65 d) ∈ news) (m7 : (d, symObj w i x q1 q2 q3 q4 q5) ∈ news) (hset : getL (.ofString "table") es = some (some (.ref tab))) (h0 : 0 ≤ i) (h1 : i < 100000) (hx : its[i.toNat]? = some (.ref a))
    (h : ∀ t' h' tk', Fr h₀ L h' m → News h₀ L h' news → Q (.str x t') { s with heap := h', toks := tk' }) :
    wpAny (model PG w) (top dp un gd env outer) (call (.ref 258) [.ref set, .int i t]) Q E s :=
  (textof_spec (t := t) hset h0 h1 hx) dp un gd env outer A₀ base h₀ L m mean mg mb s Q E B F X (by
    intro p hp
    simp only [List.mem_cons, List.not_mem_nil, or_false] at hp
    rcases hp with rfl | rfl | rfl | rfl | rfl | rfl | rfl <;> exact N _ (by assumption)) T hf hk hd hu (fun v new h' tk' hP F' _ K' _ => by
    obtain ⟨t', rfl⟩ := hP
    exact h t' h' tk' F' (News.over N K' fun _ _ h => nomatch h))

theorem num_use {w : World} {set sd tab dt rl bd : Addr} {es : List DictEntry} {ta tb t : Tok} {n n0 nl : Nat} {its : Array Value} {o : Obj} {T : List Str} {x : Str}
    {dp un : Nat} {gd : Option (List Code)} {env : Env} {outer : List Env} {A₀ : Around} {base h₀ : Heap} {L : Addr} {m : Str → Option Value} {mean : ExcName → Option Value} {mg mb : Str → Option Value} {s : Shared} {Q E : Value → Shared → Prop} {news l l0 : Led} {FY : List Addr} {g : SymR → Led}
    (B : Below A₀ base outer h₀) (F : Fr h₀ L s.heap m) (X : (KF w.params).In h₀) (N : News h₀ L s.heap news) (T₀ : Top q LZ mean mg mb h₀) (hf : env.frame = some L) (hk : env.scope.kind = .function) (hd : dp + 10 < recursionLimit) (hu : un + 8 * 10 < cLine)
    (m0 : (set, instObj 598 sd) ∈ news) (m00 : (sd, dictOf es n0) ∈ news) (hset : getL (.ofString "table") es = some (some (.ref tab))) (m1 : (tab, instObj 128 dt) ∈ news) (m2 : (dt, tabObj w rl bd ta tb n) ∈ news) (m3 : (rl, W.listOf its nl) ∈ news) (m4 : (bd, o) ∈ news) (hT : SymT w T its o l) (hx : x ∈ SIX) (lo : (bd == sysModules) = false)
    (ho : OwnOff l FY) (s4 : ∀ a ∈ [set, sd, tab, dt, rl, bd], a ∈ FY) (c1 : @LT.lt Nat _ sd set) (c2 : @LT.lt Nat _ set dt) (c3 : @LT.lt Nat _ dt tab) (c4 : @LT.lt Nat _ tab rl) (c5 : @LT.lt Nat _ rl bd)
    (hl : ∀ p ∈ l, p ∈ news) (hFY : ∀ b ∈ FY, ∃ o, (b, o) ∈ news) (h0 : ∀ p ∈ l0, p ∈ l) (R : RepF [rl, bd] l (fun r => r.l) (SymS rl bd) news g)
    (h : ∀ (r : SymR) t' h' tk', (r.T[r.i]? = some x) →  SymT w r.T r.its r.o r.l → T <+: r.T → (∀ p ∈ l0, p ∈ r.l) → OwnOff r.l FY → Fr h₀ L h' m → News h₀ L h' (g r) → Q (.int (r.i : Nat) t') { s with heap := h', toks := tk' }) :
    wpAny (model PG w) (top dp un gd env outer) (call (.ref 251) [.ref set, .str x t]) Q E s :=
  sym_use (fix := [(set, instObj 598 sd), (sd, dictOf es n0), (tab, instObj 128 dt), (dt, tabObj w rl bd ta tb n), (rl, W.listOf its nl), (bd, o)]) (FX := [set, sd, tab, dt, rl, bd]) (Pv := fun v r => (∃ t, v = .int (r.i : Nat) t) ∧ r.T[r.i]? = some x)
    ((num_spec (t := t) hset hT hx lo (OwnOff.sub ho s4) c1 c2 c3 c4 c5).post (Nat.le_refl _) (fun _ h => h) (fun v new h => h))
    B F X N T₀ hf hk hd hu (by
      intro p hp
      simp only [List.mem_cons, List.not_mem_nil, or_false] at hp
      rcases hp with rfl | rfl | rfl | rfl | rfl | rfl <;> assumption) hl (by
      intro p hp
      simp only [List.mem_cons, List.not_mem_nil, or_false] at hp
      rcases hp with rfl | rfl | rfl | rfl | rfl | rfl <;> simp) R ho hFY h0 (fun r v h' tk' hP t pr sb of F' N' => by
      obtain ⟨⟨t', rfl⟩, hg⟩ := hP
      exact h r t' h' tk' hg t pr sb of F' N')

theorem nsym_use {w : World} {set sd tab dt rl bd : Addr} {es : List DictEntry} {ta tb t : Tok} {n n0 nl : Nat} {its : Array Value} {o : Obj} {T : List Str} {x : Str}
    {dp un : Nat} {gd : Option (List Code)} {env : Env} {outer : List Env} {A₀ : Around} {base h₀ : Heap} {L : Addr} {m : Str → Option Value} {mean : ExcName → Option Value} {mg mb : Str → Option Value} {s : Shared} {Q E : Value → Shared → Prop} {news l l0 : Led} {FY : List Addr} {g : SymR → Led}
    (B : Below A₀ base outer h₀) (F : Fr h₀ L s.heap m) (X : (KF w.params).In h₀) (N : News h₀ L s.heap news) (T₀ : Top q LZ mean mg mb h₀) (hf : env.frame = some L) (hk : env.scope.kind = .function) (hd : dp + 10 < recursionLimit) (hu : un + 8 * 10 < cLine)
    (m0 : (set, instObj 598 sd) ∈ news) (m00 : (sd, dictOf es n0) ∈ news) (hset : getL (.ofString "table") es = some (some (.ref tab))) (m1 : (tab, instObj 128 dt) ∈ news) (m2 : (dt, tabObj w rl bd ta tb n) ∈ news) (m3 : (rl, W.listOf its nl) ∈ news) (m4 : (bd, o) ∈ news) (hT : SymT w T its o l) (hx : x ∈ SIX) (lo : (bd == sysModules) = false)
    (ho : OwnOff l FY) (s4 : ∀ a ∈ [set, sd, tab, dt, rl, bd], a ∈ FY) (c1 : @LT.lt Nat _ sd set) (c2 : @LT.lt Nat _ set dt) (c3 : @LT.lt Nat _ dt tab) (c4 : @LT.lt Nat _ tab rl) (c5 : @LT.lt Nat _ rl bd)
    (hl : ∀ p ∈ l, p ∈ news) (hFY : ∀ b ∈ FY, ∃ o, (b, o) ∈ news) (h0 : ∀ p ∈ l0, p ∈ l) (R : RepF [rl, bd] l (fun r => r.l) (SymS rl bd) news g)
    (h : ∀ (r : SymR)  h' tk', (r.T[r.i]? = some x) → (r.a, instObj 65 r.d) ∈ r.l → (r.d, symObj w (r.i : Nat) x r.q1 r.q2 r.q3 r.q4 r.q5) ∈ r.l → SymT w r.T r.its r.o r.l → T <+: r.T → (∀ p ∈ l0, p ∈ r.l) → OwnOff r.l FY → Fr h₀ L h' m → News h₀ L h' (g r) → Q (.ref r.a) { s with heap := h', toks := tk' }) :
    wpAny (model PG w) (top dp un gd env outer) (call (.ref 244) [.ref set, .str x t]) Q E s :=
  sym_use (fix := [(set, instObj 598 sd), (sd, dictOf es n0), (tab, instObj 128 dt), (dt, tabObj w rl bd ta tb n), (rl, W.listOf its nl), (bd, o)]) (FX := [set, sd, tab, dt, rl, bd]) (Pv := fun v r => v = .ref r.a ∧ SymG w x r)
    ((nsym_spec (t := t) hset hT hx lo (OwnOff.sub ho s4) c1 c2 c3 c4 c5).post (Nat.le_refl _) (fun _ h => h) (fun v new h => h))
    B F X N T₀ hf hk hd hu (by
      intro p hp
      simp only [List.mem_cons, List.not_mem_nil, or_false] at hp
      rcases hp with rfl | rfl | rfl | rfl | rfl | rfl <;> assumption) hl (by
      intro p hp
      simp only [List.mem_cons, List.not_mem_nil, or_false] at hp
      rcases hp with rfl | rfl | rfl | rfl | rfl | rfl <;> simp) R ho hFY h0 (fun r v h' tk' hP t pr sb of F' N' => by
      obtain ⟨rfl, hg⟩ := hP
      exact h r h' tk' hg.at_ hg.inst hg.dict t pr sb of F' N')

/-! ## operators -/
/-- the place of the last x in ys -/
def lastAt : List Str → Str → Option Nat
  | [], _ => none
  | y :: r, x => match lastAt r x with
    | some i => some (i + 1)
    | none => if y = x then some 0 else none
theorem lastAt_snoc (ys : List Str) (y x : Str) : lastAt (ys ++ [y]) x = if y = x then some ys.length else lastAt ys x := by
  induction ys with
  | nil => simp [lastAt]
  | cons z r ih =>
    simp only [List.cons_append, lastAt, ih]
    by_cases h : y = x
    · simp [h]
    · simp [h]
theorem lastAt_mem : ∀ {ys : List Str} {x : Str}, x ∉ ys → lastAt ys x = none
  | [], _, _ => rfl
  | y :: r, x, h => by
    simp only [List.mem_cons, not_or] at h
    simp [lastAt, lastAt_mem h.2, Ne.symm h.1]
def after (pf : Str → Option Int) (ys : List Str) (x : Str) : Option Int := match lastAt ys x with
  | some i => some (i : Int)
  | none => pf x
theorem after_nil (pf : Str → Option Int) : after pf [] = pf := rfl
theorem after_snoc (pf : Str → Option Int) (ys : List Str) (y x : Str) : after pf (ys ++ [y]) x = if y = x then some (ys.length : Int) else after pf ys x := by
  unfold after; rw [lastAt_snoc]
  by_cases h : y = x <;> simp [h]
def IntAt (v : Option Value) (i : Option Int) : Prop := match i with
  | some i => ∃ t, v = some (.int i t)
  | none => v = none
structure OpsOk (T : List Str) (kv : List (Int × Value)) (pf : Str → Option Int) : Prop where
  at_ : ∀ (j : Nat) (x : Str), T[j]? = some x → IntAt (valueAt kv (j : Int)) (pf x)
  above : ∀ j : Nat, T.length ≤ j → valueAt kv (j : Int) = none
  out : ∀ x, x ∉ T → pf x = none
theorem OpsOk.mono {T T' : List Str} {kv : List (Int × Value)} {pf : Str → Option Int} (h : OpsOk T kv pf) (hp : T <+: T') (hn : T'.Nodup) : OpsOk T' kv pf := by
  obtain ⟨R, rfl⟩ := hp
  refine ⟨fun j x hx => ?_, fun j hj => h.above j (by rw [List.length_append] at hj; omega), fun x hx => h.out x fun hc => hx (List.mem_append_left _ hc)⟩
  by_cases hj : j < T.length
  · rw [List.getElem?_append_left hj] at hx; exact h.at_ j x hx
  · have h1 : x ∈ R := by
      rw [List.getElem?_append_right (by omega)] at hx; exact List.mem_of_getElem? hx
    have h2 : x ∉ T := fun hc => (List.nodup_append.mp hn).2.2 x hc x h1 rfl
    rw [h.out x h2, h.above j (by omega)]; rfl
theorem OpsOk.set {T : List Str} {kv : List (Int × Value)} {pf : Str → Option Int} {ys : List Str} {x : Str} {i : Nat} {t : Tok} (h : OpsOk T kv (after pf ys)) (hn : T.Nodup) (hi : T[i]? = some x) :
    OpsOk T (stored kv (i : Int) (.int (ys.length : Int) t)) (after pf (ys ++ [x])) := by
  refine ⟨fun j y hy => ?_, fun j hj => ?_, fun y hy => ?_⟩
  · rw [valueAt_stored, after_snoc]
    by_cases e : j = i
    · subst e
      rw [hi] at hy; cases hy
      simp [IntAt]
    · have hne : x ≠ y := fun hxy => e (by
        subst hxy
        obtain ⟨h1, h2⟩ := List.getElem?_eq_some_iff.mp hi
        obtain ⟨h3, h4⟩ := List.getElem?_eq_some_iff.mp hy
        exact (List.getElem_inj hn).mp (h4.trans h2.symm))
      rw [if_neg (by omega), if_neg hne]
      exact h.at_ j y hy
  · rw [valueAt_stored, if_neg]
    · exact h.above j hj
    · have := (List.getElem?_eq_some_iff.mp hi).1
      omega
  · rw [after_snoc, if_neg]
    · exact h.out y hy
    · rintro rfl; exact hy (List.mem_of_getElem? hi)
theorem map_self (m : Str → Option Value) (x : Str) : m = fun y => if y = x then m x else m y := by
  funext y; split
  · rename_i e; rw [e]
  · rfl
theorem map_again {m : Str → Option Value} {x : Str} {u v : Option Value} : (fun y => if y = x then v else if y = x then u else m y) = fun y => if y = x then v else m y := by
  funext y; split <;> simp_all
theorem SymT.ledger {w : World} {T : List Str} {its : Array Value} {o : Obj} {l l' : Led} (h : SymT w T its o l) (hs : ∀ p ∈ l, p ∈ l') : SymT w T its o l' :=
  ⟨h.nd, h.six, h.size, fun i x hx => let ⟨a, d, ta, tb, tc, td, n, e1, e2, e3⟩ := h.row i x hx; ⟨a, d, ta, tb, tc, td, n, e1, hs _ e2, hs _ e3⟩, h.dict⟩
/-- rows of names -/
def RowsAre (xs : List Str) (rv : Array Value) (l : Led) : Prop := rv.size = xs.length ∧ ∀ (i : Nat) (x : Str), xs[i]? = some x → ∃ a t v1 v2 v3, rv[i]? = some (Value.ref a) ∧ (a, ({ cls := .type "tuple", data := .seq [Value.str x t, v1, v2, v3].toArray } : Obj)) ∈ l
def SymR0 (T : List Str) (its : Array Value) (nl : Nat) (o : Obj) (l : Led) : SymR := ⟨T, its, nl, o, l, 0, 0, 0, 0, 0, 0, 0, 0⟩
structure GInv (w : World) (T : List Str) (l : Led) (FX : List Addr) (kl : Nat) (pf : Str → Option Int) (ys : List Str) (i : Nat) (r : SymR) (oo : Obj) (kv : List (Int × Value)) : Prop where
  t : SymT w r.T r.its r.o r.l
  pre : T <+: r.T
  sub : ∀ p ∈ l, p ∈ r.l
  off : OwnOff r.l FX
  d : oo.IsDictOf (IK w) kv
  ok : OpsOk r.T kv (after pf ys)
  len : kv.length ≤ kl + i
theorem off1_ne {l : Led} {I : Addr} (h : LCg.Off1 I l) : ∀ p ∈ l, p.1 ≠ I := off1_mem h
theorem getElem?_of_lt {α : Type} {xs : List α} {i : Nat} (h : i < xs.length) : ∃ x, xs[i]? = some x := ⟨xs[i], by simp [h]⟩
theorem take_snoc {α : Type} {xs : List α} {i : Nat} {x : α} (h : xs[i]? = some x) : xs.take (i + 1) = xs.take i ++ [x] := by
  rw [List.take_add_one, h]; rfl

set_option maxHeartbeats 2000000 in
theorem giveops_spec {w : World} {set sd tab dt rl bd op rws ti pt : Addr} {f : Int} {tf : Tok} {z : SZ} {ta tb : Tok} {n nl nr : Nat} {its rv : Array Value} {o oo : Obj} {T : List Str} {l : Led} {xs : List Str} {kv : List (Int × Value)} {pf : Str → Option Int}
    (hS : SymT w T its o l) (hR : RowsAre xs rv l) (hx : ∀ x ∈ xs, x ∈ SIX) (hxl : xs.length ≤ 100) (hO : oo.IsDictOf (IK w) kv) (hok : OpsOk T kv pf) (hkz : kv.length ≤ 800)
    (lo : (bd == sysModules) = false) (hl : OwnOff l [set, sd, tab, dt, rl, bd, op, rws]) (c1 : @LT.lt Nat _ sd set) (c2 : @LT.lt Nat _ set dt) (c3 : @LT.lt Nat _ dt tab) (c4 : @LT.lt Nat _ tab rl) (c5 : @LT.lt Nat _ rl bd) (c6 : @LT.lt Nat _ bd op) (c7 : (@Ne Nat set rws) ∧ (@Ne Nat sd rws) ∧ (@Ne Nat tab rws) ∧ (@Ne Nat dt rws) ∧ (@Ne Nat rl rws) ∧ (@Ne Nat bd rws) ∧ (@Ne Nat op rws)) :
    Spec w 14 279 [.ref set, .ref rws] ((set, instObj 598 sd) :: (sd, setObj w tab ti op pt f tf z) :: (tab, instObj 128 dt) :: (dt, tabObj w rl bd ta tb n) :: (rl, W.listOf its nl) :: (bd, o) :: (op, oo) :: (rws, W.listOf rv nr) :: l) [rl, bd, op]
      (fun v new => v = .none ∧ ∃ (r : SymR) (oo' : Obj) (kv' : List (Int × Value)), SymP w T l [set, sd, tab, dt, rl, bd, op, rws] rl bd new r ∧ (op, oo') ∈ new ∧ oo'.IsDictOf (IK w) kv' ∧ OpsOk r.T kv' (after pf xs) ∧ kv'.length ≤ kv.length + xs.length) := by
  have hsize := hR.1
  w_on
  intro dp un gd env outer A₀ base h₀ L m mean mg mb s Q E hB hF hK hN hT hfr hkd hdd hu hret
  refine wpAny_call ?_
  k_dflt k_enter
  (repeat' ((fail_if_success (with_reducible show Hold _)); (fail_if_success (with_reducible show TurnEnd0 _ _ _ _ _ _ _ _ _ _)); first | (k_unfold; (try dsimp only)) | (k_end; first | kc_close | wrow_close) | ((with_reducible show wpAny _ _ (exec (PySem.Stmt.For _ _ _ _ _) _) _ _ _); ((rename Fr _ _ _ _ => lF'); (with_unfolding_all refine' For_invVF lF' ?k1 ?k2 ?_; (case k1 => exact rfl); (case k2 => exact rfl); k_whole))) | walk1 | (dsimp only; walk1) | (leave1; try dsimp only)))
  unfold Hold
  rename Fr _ _ _ _ => F1
  rename News _ _ _ _ => N1
  rename IsRange _ _ _ _ _ _ _ _ => R1
  refine range_loop0 (n := xs.length) (fun i nx => ∃ (r : SymR) (oo' : Obj) (kv' : List (Int × Value)), nx = (set, instObj 598 sd) :: (sd, setObj w tab ti op pt f tf z) :: (tab, instObj 128 dt) :: (dt, tabObj w rl bd ta tb n) :: (rl, W.listOf r.its r.nl) :: (bd, r.o) :: (op, oo') :: (rws, W.listOf rv nr) :: r.l ∧ GInv w T l [set, sd, tab, dt, rl, bd, op, rws] kv.length pf (xs.take i) i r oo' kv') rfl R1 rfl (by omega) F1 N1 ⟨SymR0 T its nl o l, oo, kv, rfl, ⟨hS, List.prefix_rfl, fun _ h => h, hl, hO, hok, Nat.le_refl _⟩⟩ ?turn ?done
  case turn =>
    clear F1 N1 R1
    rintro i t I nx h tk oI hi ⟨r, oo', kv', rfl, g⟩ hI F2 N2
    dsimp only [envOf] at F2 N2
    simp only [LCg.Off1] at hI
    obtain ⟨i1, i2, i3, i4, i5, i6, i7, i8, hIl⟩ := hI
    have g1 := g.t
    have g2 := g.d
    have g3 : OwnOff r.l (I :: [set, sd, tab, dt, rl, bd, op, rws]) := OwnOff.cons g.off (off1_ne hIl)
    have g4 : kv'.length ≤ 1000 := by have := g.len; omega
    have g5 : ∀ p ∈ l, p ∈ r.l := g.sub
    obtain ⟨x, hxi⟩ := getElem?_of_lt hi
    have hx6 : x ∈ SIX := hx x (List.mem_of_getElem? hxi)
    obtain ⟨ra, tx, v1, v2, v3, hr1, hr2⟩ := hR.2 i x hxi
    have hr3 := g5 _ hr2
    (repeat' ((fail_if_success (with_reducible show Hold _)); (fail_if_success (with_reducible show TurnEnd0 _ _ _ _ _ _ _ _ _ _)); first | (k_unfold; (try dsimp only)) | (k_end; first | kc_close | wrow_close) | ((with_reducible show wpAny _ _ (call _ _) _ _ _); (try dsimp only); first | ((with_reducible show wpAny _ _ (call (Value.ref 244) _) _ _ _); (k_dflt (apply nsym_use); walk_at "kz2"; (try dsimp only); (try k_sweep)))) | ((with_reducible show wpAny _ _ (subscriptTail _ _ _ _) _ _ _); (try dsimp only); first | ((with_reducible show wpAny _ _ (subscriptTail _ _ (Value.ref _) (Value.int _ _)) _ _ _); k_dflt (refine' item_M ?k1 ?k2 ?k4 ?k5 ?k3 ?_ ?k6; (case k1 => k_asm); (case k2 => k_mem); (case k3 => assumption); (case k4 => first | with_reducible assumption | omega); (case k5 => first | with_reducible assumption | omega); (case k6 => with_unfolding_all rfl); k_whole))) | ((with_reducible show wpAny _ _ (setItem _ _ _) _ _ _); (try dsimp only); first | ((with_reducible show wpAny _ _ (setItem (Value.ref _) _ _) _ _ _); k_dflt (first | (refine' kda_set (knd := PySem.strKind _ _) ?k1 ?k2 ?k3 ?k4 (strKind_is _ _ _ _) ?k5 ?_; (case k1 => k_asm); (case k2 => k_asm); (case k3 => k_updF); (case k4 => k_asm); (case k5 => exact small_line (by assumption)); k_whole) | (refine' kda_set (knd := intKind _ _) ?k1 ?k2 ?k3 ?k4 (intKind_is _ _ _ _) ?k5 ?_; (case k1 => k_asm); (case k2 => k_asm); (case k3 => k_updF); (case k4 => k_asm); (case k5 => exact small_line (by assumption)); k_whole)); walk_at "kq3"; (try k_sweep))) | walk1 | (dsimp only; walk1) | (leave1; try dsimp only)))
    rename SymR => r2
    rename Obj => o2
    rename Fr _ _ _ _ => F3
    rename News _ _ _ _ => N3
    rename Obj.IsDictOf _ _ _ => d2
    rename SymT _ _ _ _ _ => t2
    rename _ <+: _ => p2
    rename OwnOff _ _ => w2
    have s2 : ∀ p ∈ l, p ∈ r2.l := by assumption
    have a2 : r2.T[r2.i]? = some x := by assumption
    refine turn_next F3 N3 ?off ⟨r2, o2, _, rfl, ⟨t2, g.pre.trans p2, s2, fun p hp b hb => w2 p hp b (.tail _ hb), d2, ?ok, ?len⟩⟩
    case off => (repeat' (first | (refine List.forall_mem_cons.mpr ⟨by assumption, ?_⟩) | exact fun p hp => w2 p hp I (.head _)))
    case ok =>
      rw [take_snoc hxi]
      have := (g.ok.mono p2 t2.nd).set (t := t) t2.nd a2
      rw [List.length_take_of_le (by omega)] at this
      exact this
    case len =>
      have h1 := stored_length_le kv' (r2.i : Int) (Value.int (i : Int) t)
      have h2 := g.len
      omega
  case done =>
    clear F1 N1 R1
    rintro u nx h tk ⟨r, oo', kv', rfl, g⟩ F2 N2
    dsimp only [envOf] at F2 N2
    (repeat' ((fail_if_success (with_reducible show Hold _)); (fail_if_success (with_reducible show TurnEnd0 _ _ _ _ _ _ _ _ _ _)); first | (k_unfold; (try dsimp only)) | (k_end; first | kc_close | wrow_close) | walk1 | (dsimp only; walk1) | (leave1; try dsimp only)))
    rw [List.take_length] at g
    have g6 := g.off
    refine' hret _ _ _ _ ?zp ?zf ?zn ?zk ?zr
    case zf => k_asm
    case zn => k_asm
    case zk => refine keep_mut (by k_asm) (by k_asm) hN (by k_asm) ?_; repeat' (first | (with_reducible refine fac ?_ ?_) | (with_reducible exact List.forall_mem_nil _) | exact Or.inr (by k_mem) | exact Or.inl (List.Mem.head _) | exact Or.inl (.tail _ (.head _)) | exact Or.inl (.tail _ (.tail _ (.head _))) | (intro p' hp'; refine Or.inr ?_; (repeat (with_reducible apply kfs5)); (repeat (refine List.Mem.tail _ ?_)); exact g.sub _ hp'))
    case zr => exact fresh_of (by k_asm) (by k_asm)
    case zp => exact ⟨rfl, r, oo', kv', ⟨g.t, g.pre, g.sub, g.off, by (intro p' hp'; (repeat (with_reducible apply kfs5)); (repeat (refine List.Mem.tail _ ?_)); exact hp'), by k_mem, by k_mem⟩, by k_mem, g.d, g.ok, g.len⟩

open PySem.Calls in
/-- a def whose names are captured by a block: entered with its cells, and what stays is told -/
theorem code_defCT {prog : Program} {w : World} {A₀ A : Around} {s : Shared} {base h₀ : Heap} {outer : List Env} {L : Addr} {m : Str → Option Value} {env : Env} {news : Led}
    {K : Frag} {p : Program} {lo : List Str} {mean : ExcName → Option Value} {mg mb : Str → Option Value} {R : Result → Shared → Prop} {name qual : Str} {params : Arguments} {body : List Stmt} {scope : Scope} {dV kV doc pm cdv ct oc : Value} {an od : Option Addr} {osl : Array (Option Value)} {f : Addr} {args : Args} {binds : List (Str × Value)}
    (B : Below A₀ base outer h₀) (F : Fr h₀ L s.heap m) (X₀ : K.In h₀) (N : News h₀ L s.heap news) (T : Top p lo mean mg mb h₀) (hA : A.frames = some (env :: outer)) (hf : env.frame = some L) (hke : env.scope.kind = .function)
    (ho : K.lookup f = some ⟨oc, od, .func (fnOf name qual params body scope dV kV doc pm an cdv ct), osl⟩) (hcd : codeIn K cdv qual = true) (hroom : A.depth < recursionLimit)
    (hbind : BindsTo s (fnOf name qual params body scope dV kV doc pm an cdv ct) args binds) (hkind : (binds.all fun y => scope.names.lookup y.1 == some .local || scope.names.lookup y.1 == some .cell) = true)
    (hnd : ((cellsFrom 0 scope.names []).map (·.1)).Nodup)
    (h : ∀ g L' h₁ tk cells, Fr h₀ L g m → Fr g L' h₁ (bindL (envOfC qual scope L' f cdv).kindOf binds fun _ => none) → News g L' h₁ (cells ++ news) →
      CellsAre (bindC (envOfC qual scope L' f cdv).kindOf binds fun _ => none) (cellsFrom (L' + 1) scope.names []) cells → Below A base (env :: outer) g → K.In g → Top p lo mean mg mb g → (∀ p ∈ news, p.1 < L') → GSub s.heap g (news.map (·.1)) → (∀ c ∈ cells, s.heap.get? c.1 = none) →
      wpAny (model prog w) (A.deeper (envOfC qual scope L' f cdv)) (execs body (envOfC qual scope L' f cdv))
        (fun fl s' => LeaveK h₀ L m g R (match fl with | .ret v => v | _ => .none) s')
        (fun e s' => wpAny (model prog w) (A.deeper (envOfC qual scope L' f cdv)) (leaving (envOfC qual scope L' f cdv) e) (fun _ s'' => R (.error e) s'') (fun e' s'' => R (.error e') s'') s')
        { s with heap := h₁, toks := tk })
    (hco : scope.isCoroutine = false) (hgen : scope.isGenerator = false) (hk : scope.kind = .function) : codeAny (model prog w) A (.call (.ref f) args) R s := by
  have T₀ := T.nolimit
  have ho' := (X₀.keeps F.keep) _ _ ho
  have hcd' := codeRec_of (X₀.keeps F.keep) hcd
  obtain ⟨FG, BG, st, lv⟩ := groundX (R := R) B F N hA hf hke
  refine codeAny_call_function (fd := fnX name qual params body scope [] dV kV doc pm an cdv ct) (body := body) hroom ho' rfl hco hgen rfl hcd' (hbind _ _ _ _ ?_)
  refine wpAny_newFunctionEnv_cells hk (kindsX hkind _) fun env' he s' x => ?_
  subst he
  refine ⟨(T₀.keeps F.keep).keeps x.toInCall.keep, codeAny_func ?_⟩
  obtain ⟨h₁, tk, rfl, _⟩ := x.done
  have hk₁ := x.toInCall.keep
  obtain ⟨cells, NC, Y⟩ := Cl.news (h₀ := s.heap) (Nat.le_refl _) fun n c hm => ⟨x.cell n c (lookup_of_mem_nodup (cellsFrom_names scope.names 0 (s.heap.objs.size + 1) [] [] rfl ▸ hnd) hm), x.above n c hm⟩
  refine wpAny_mono (h _ s.heap.objs.size h₁ tk cells FG ⟨x.toInCall.ns, fun b o e => hk₁ b o (of_hideAll _ e), Nat.le_of_eq (hideAll_size _ _)⟩ (fun p hp => ?_) Y BG (X₀.keeps st) (T.keeps st) (fun p hp => Heap.lt_size (N p hp).1) (fun b o e n => hideAll_get _ e n) (fun c hc => (NC c hc).2.2)) (fun fl s' hl => lv _ _ hl) fun _ _ y => y
  rcases List.mem_append.mp hp with hp | hp
  · refine ⟨(NC p hp).1, (NC p hp).2.1, ?_⟩
    cases q : (hideAll s.heap (news.map (·.1))).get? p.1 with
    | none => rfl
    | some o => have := of_hideAll _ q; rw [(NC p hp).2.2] at this; cases this
  · exact ⟨hk₁ _ _ (N p hp).1, Nat.ne_of_lt (Heap.lt_size (N p hp).1), hideAll_none _ (List.mem_map_of_mem hp)⟩

open PySem.Calls
section
variable {prog : Program} {w : World} {A : Around} {E : Value → Shared → Prop} {s : Shared}
theorem getq_miss_list {a : Addr} {xs : Array Value} {k : Nat} {name : Str} {Q : Option Value → Shared → Prop}
    (hx : s.heap.get? a = some (W.listOf xs k)) (hmiss : typeLookup (.type "list") name = pure none) (hname : (["__module__", "__name__", "__qualname__", "__doc__", "__annotations__"] : List Str).contains name = false) (hA : A.handled = none)
    (h : ∀ h' tk, (∀ b o, s.heap.get? b = some o → h'.get? b = some o) → Q none { s with heap := h', toks := tk }) (hsz : name.length + 100 ≤ sizeLine := by size_fits) :
    wpAny (model prog w) A (getAttr? (.ref a) name) Q E s := by
  obtain ⟨hp, g, d, tk, os⟩ := s
  have hT : ∀ tk', (⟨hp, g, d, tk', os⟩ : Shared).TypeIs (.ref a) "list" := fun _ => ⟨_, hx, rfl⟩
  have f1 := sub_AttributeError
  have f3 := PySem.F.slot_list_getattribute.lookup
  have f4 := PySem.F.slot_list_getattribute.bind (.ref a)
  have f5 := am_list_getattr_none
  unfold getAttr? getAttrBy? getAttrBy
  repeat (any_goals (first | assumption | exact hT _ | ((with_reducible show wpAny _ _ (call (Value.builtin "list.__getattribute__") _ _) _ _ _); refine call_meets PySem.F.slot_list_getattribute (hT _) am_entry_list_getattribute (PySem.F.args_list_getattribute_2 _ _) (meets_getattribute_miss_list a xs k #[] name _ hmiss hname hsz) ⟨hx, hA, fun h' tk' e hx' => ?_⟩) | wp_step))
  obtain ⟨t', u', he⟩ := hx'.there
  show wpAny _ _ (getattributeRaised _ _ _ _ _ _ _) _ _ _
  unfold getattributeRaised
  repeat (any_goals (first | assumption | wp_step))
  exact h _ _ hx'.keeps
theorem keys_miss : typeLookup (.type "list") (Str.ofString "keys") = pure none := am_miss_of_fast (by kernel_rfl)
theorem entry_update_loop : entryFor table "dict.update.loop" = some Builtin.«dict.update.loop» := entryFor_of_tree (by kernel_rfl)
theorem plain_update_loop : plainId "dict.update.loop" = true := by decide +kernel
abbrev pairObj (x y : Value) : Obj := { cls := .type "tuple", data := .seq [x, y].toArray }
theorem update_loop {Ed D I : Addr} {its : Array Value} {kvs : List (Int × Value)} {H : Heap} {R : Result → Shared → Prop} (hA : A.handled = none) (hz : kvs.length ≤ 1000) (hn : (kvs.map (·.1)).Nodup) (hsz : its.size = kvs.length) (d1 : Ed ≠ I) (d2 : D ≠ Ed) (d3 : D ≠ I)
    (hD : H.IsList D its) (hp : ∀ (i : Nat) (kv : Int × Value), kvs[i]? = some kv → ∃ a t, its[i]? = some (.ref a) ∧ a ≠ Ed ∧ a ≠ I ∧ H.get? a = some (pairObj (.int kv.1 t) kv.2)) :
    ∀ (m i : Nat) (s : Shared), kvs.length - i = m → i ≤ kvs.length → s.heap.IsListIter I D i → s.heap.DictOf (intKind prog w) Ed (kvs.take i) → (∀ b o, b ≠ Ed → b ≠ I → H.get? b = some o → s.heap.get? b = some o) →
      (∀ h' tk, h'.DictOf (intKind prog w) Ed kvs → (∀ b o, b ≠ Ed → b ≠ I → H.get? b = some o → h'.get? b = some o) → R (.ok (.ret .none)) { s with heap := h', toks := tk }) →
      codeAny (model prog w) A (.builtin "dict.update.loop" ⟨[.ref Ed, .ref I, .int i 0, .none], []⟩) R s := by
  intro m
  induction m with
  | zero =>
    intro i s hm hi hit hd hk hR
    obtain rfl : i = kvs.length := by omega
    rw [List.take_length] at hd
    refine codeAny_builtin entry_update_loop ?_
    rw [Around.under_plainId plain_update_loop _]
    show wpAny _ A.in1 (pyNext (.ref I) >>= _) _ _ s
    have hDs : s.heap.IsList D its := hD.at fun o e => hk _ _ d2 d3 e
    refine wpAny_bind (wpAny_pyNext_list_end hA hit hDs (by simp [hsz]) fun h' hs' => ?_)
    exact wpAny_bind (wpAny_pure (wpAny_pure (hR h' s.toks (by
      obtain ⟨o, es, ep, ho, r⟩ := hd
      exact ⟨o, es, ep, hs' _ _ d1 ho, r⟩) fun b o b1 b2 e => hs' _ _ b2 (hk b o b1 b2 e))))
  | succ m ih =>
    intro i s hm hi hit hd hk hR
    have hlt : i < kvs.length := by omega
    refine codeAny_builtin entry_update_loop ?_
    rw [Around.under_plainId plain_update_loop _]
    show wpAny _ A.in1 (pyNext (.ref I) >>= _) _ _ s
    have hDs : s.heap.IsList D its := hD.at fun o e => hk _ _ d2 d3 e
    obtain ⟨a, t, ha, a1, a2, a3⟩ := hp i kvs[i] (by simp [hlt])
    refine wpAny_bind (wpAny_pyNext_list_item hit hDs ha fun h' hit' hs' => ?_)
    have hta : h'.get? a = some (pairObj (.int kvs[i].1 t) kvs[i].2) := hs'.extBut _ _ a2 (hk _ _ a1 a2 a3)
    have hT : ({ s with heap := h' } : Shared).TypeIs (.ref a) "tuple" := ⟨_, hta, rfl⟩
    have hd' : h'.DictOf (intKind prog w) Ed (kvs.take i) := by
      obtain ⟨o, es, ep, ho, r⟩ := hd
      exact ⟨o, es, ep, hs'.extBut _ _ d1 ho, r⟩
    refine wpAny_bind (wpAny_holding (wpAny_bind (wpAny_tryCatch ?_)))
    unfold Builtin.Dict.pairItems
    refine wpAny_bind (wpAny_typeOf hT ?_)
    rw [if_pos (by decide)]
    refine wpAny_bind (wpAny_seqItems hta rfl (wpAny_pure ?_))
    show wpAny _ _ (holding [Value.int kvs[i].1 t, kvs[i].2] (dictSet Ed (Value.int kvs[i].1 t) kvs[i].2)) _ _ _
    refine wpAny_holding (wpAny_dictSet_pairs (hsz := small_line (by rw [List.length_take]; omega)) (intKind_is _ _ _ _) hd' fun h'' hd'' hs'' => ?_)
    refine wpAny_pure ⟨plainId_quiet plain_update_loop _, ?_⟩
    have hst : stored (kvs.take i) kvs[i].1 kvs[i].2 = kvs.take (i + 1) := by
      rw [List.take_add_one, List.getElem?_eq_getElem hlt]
      refine stored_absent ?_ _
      unfold valueAt
      rw [Option.map_eq_none_iff, List.find?_eq_none]
      intro kv hkv he
      obtain ⟨j, hj, e⟩ := List.mem_iff_getElem.mp hkv
      have hji : j < i := by rw [List.length_take] at hj; omega
      rw [List.getElem_take] at e
      have h1 : (kvs.map (·.1))[j]'(by simp; omega) = (kvs.map (·.1))[i]'(by simpa using hlt) := by
        simp only [List.getElem_map, e]; exact of_decide_eq_true he
      have := (List.getElem_inj hn).mp h1
      omega
    rw [hst] at hd''
    have := ih (i + 1) { s with heap := h'', toks := s.toks + 1 } (by omega) hlt (by
      obtain ⟨o, ho, r⟩ := hit'
      exact ⟨o, hs''.extBut _ _ (Ne.symm d1) ho, r⟩) hd'' (fun b o b1 b2 e => hs''.extBut _ _ b1 (hs'.extBut _ _ b2 (hk b o b1 b2 e))) (fun h3 tk3 q1 q2 => hR h3 tk3 q1 q2)
    exact this
theorem dict_pairs {h₀ : Heap} {L D : Addr} {m : Str → Option Value} {news : Led} {its : Array Value} {n : Nat} {kvs : List (Int × Value)} {Q : Value → Shared → Prop} (hA : A.handled = none) (hbig : h₀.NoLimit) (F : Fr h₀ L s.heap m) (N : News h₀ L s.heap news) (hm : (D, W.listOf its n) ∈ news) (hz : kvs.length ≤ 1000) (hn : (kvs.map (·.1)).Nodup) (hsz : its.size = kvs.length)
    (hp : ∀ (i : Nat) (kv : Int × Value), kvs[i]? = some kv → ∃ a t, its[i]? = some (.ref a) ∧ (a, pairObj (.int kv.1 t) kv.2) ∈ news)
    (h : ∀ (Ed : Addr) h' tk o, Fr h₀ L h' m → News h₀ L h' ((Ed, o) :: news) → (Ed == sysModules) = false → o.IsDictOf (intKind prog w) kvs → (∀ p ∈ news, p.1 < Ed) → Q (.ref Ed) { s with heap := h', toks := tk }) :
    wpAny (model prog w) A (call (.type "dict") [.ref D]) Q E s := by
  have hlt : ∀ b o, s.heap.get? b = some o → b < s.heap.objs.size := fun b o e => Heap.lt_size e
  refine callType_codes (Q₁ := fun obj s₁ => obj = .ref s.heap.objs.size ∧ s₁ = { s with heap := s.heap.push { cls := .type "dict", data := .dict #[] } }) PySem.F.kt_called_dict (PySem.F.kt_typeCall_dict_1 _) PySem.F.entry_dict_init (kt_code_dict_new _ ⟨rfl, rfl⟩) ?_
  rintro obj s₁ ⟨rfl, rfl⟩
  have hnew : (s.heap.push { cls := .type "dict", data := .dict #[] }).DictOf (intKind prog w) s.heap.objs.size [] := Heap.DictOf.new s.heap
  have hDg : (s.heap.push { cls := .type "dict", data := .dict #[] }).get? D = some (W.listOf its n) := Heap.get?_push_of_some _ (N _ hm).1
  refine ⟨hnew.typeIs, PySem.F.args_dict_init_2 _ _, ?_⟩
  unfold Builtin.«dict.__init__»
  refine wpAny_bind ?_
  unfold Builtin.Dict.selfAndRest
  refine wpAny_bind (wpAny_notOrdered_dict hnew.typeIs ?_)
  show wpAny _ _ (pure (s.heap.objs.size, [Value.ref D])) _ _ _
  refine wpAny_pure ?_
  show wpAny _ _ (Builtin.Dict.updateFrom "dict.__init__" s.heap.objs.size (.ref D) [] .none) _ _ _
  unfold Builtin.Dict.updateFrom
  refine wpAny_bind (wpAny_typeOf (T := "list") ⟨_, hDg, rfl⟩ ?_)
  rw [if_pos (by decide)]
  refine wpAny_bind (getq_miss_list (s := { s with heap := s.heap.push { cls := .type "dict", data := .dict #[] } }) hDg keys_miss (by decide +kernel) hA (fun h1 tk1 k1 => ?_) (by rw [sizeLine_eq]; decide +kernel))
  rw [if_pos (by rfl)]
  refine wpAny_bind (wpAny_rule ?_)
  have hD1 : h1.IsList D its := ⟨_, k1 _ _ hDg, rfl, n, rfl⟩
  refine wpAny_bind (wpAny_pyIter_list hD1 ?_)
  have hE1 : h1.DictOf (intKind prog w) s.heap.objs.size [] := by
    obtain ⟨o, es, ep, ho, r⟩ := hnew
    exact ⟨o, es, ep, k1 _ _ ho, r⟩
  have hEI : s.heap.objs.size < h1.objs.size := by
    obtain ⟨o, es, ep, ho, r⟩ := hE1
    exact Heap.lt_size ho
  have hDlt : D < s.heap.objs.size := hlt _ _ (N _ hm).1
  refine wpAny_pure ⟨plainId_quiet plain_update_loop _, ?_⟩
  have key := update_loop (A := A.in1) (prog := prog) (w := w) (Ed := s.heap.objs.size) (D := D) (I := h1.objs.size) (its := its) (kvs := kvs) (H := h1) (R := wants (fun r s₂ => r = .none ∧ Q (.ref s.heap.objs.size) s₂) E) hA hz hn hsz (Nat.ne_of_lt hEI) (Nat.ne_of_lt hDlt) (Nat.ne_of_lt (Nat.lt_trans hDlt hEI)) hD1
    (fun i kv hi => by
      obtain ⟨a, t, e1, e2⟩ := hp i kv hi
      have halt := hlt _ _ (N _ e2).1
      exact ⟨a, t, e1, Nat.ne_of_lt halt, Nat.ne_of_lt (Nat.lt_trans halt hEI), k1 _ _ (Heap.get?_push_of_some _ (N _ e2).1)⟩)
    kvs.length 0 { s with heap := h1.push { cls := .type "list_iterator", data := .fields #[.ref D, .int 0 0] }, toks := tk1 } rfl (Nat.zero_le _) ⟨_, Heap.get?_push_size _ rfl, rfl, rfl⟩ (by
      obtain ⟨o, es, ep, ho, r⟩ := hE1
      exact ⟨o, es, ep, Heap.get?_push_of_some _ ho, r⟩) (fun b o _ _ e => Heap.get?_push_of_some _ e) (fun h' tk hd hk => by
      obtain ⟨o, ho, hd'⟩ := Heap.dictOf_iff.mp hd
      have up : ∀ b o, s.heap.get? b = some o → h'.get? b = some o := fun b o e =>
        hk b o (Nat.ne_of_lt (hlt _ _ e)) (Nat.ne_of_lt (Nat.lt_trans (hlt _ _ e) hEI)) (k1 _ _ (Heap.get?_push_of_some _ e))
      have N1 := News.push F N { cls := .type "dict", data := .dict #[] }
      refine ⟨rfl, h _ h' tk o (F.keeps up) (fun p hp' => ?_) (F.notModules (modules_low hbig)) hd' fun p hp' => hlt _ _ (N p hp').1⟩
      rcases List.mem_cons.mp hp' with rfl | hp'
      · exact ⟨ho, (N1 _ (.head _)).2⟩
      · exact ⟨up _ _ (N p hp').1, (N p hp').2⟩)
  exact key
end

section
local macro_rules | `(tactic| k_enter) => `(tactic| (refine' code_defCT ?k1 ?k2 ?k3 ?k4 ?k5 ?kA ?kF ?kK ?k6 ?k7 ?k8 ?k9 ?kB ?kD ?_ ?c2 ?c3 ?c4; (case kA => exact rfl); (case kF => first | exact rfl | assumption); (case kK => first | exact rfl | assumption); (case k1 => k_asm); (case k2 => k_asm); (case k3 => k_asm); (case k4 => k_asm); (case k5 => k_asm); (case k6 => k_is); (case k7 => k_is); (case k8 => k_room); (case k9 => exact BindsTo.of_eq rfl); (case kB => exact rfl); (case kD => decide +kernel); (case c2 => exact rfl); (case c3 => exact rfl); (case c4 => exact rfl); k_whole; intro g' L' h' tk' cells' FG' F' N' Y' B' X' T' l1 G' cf'; (try k_lt l1); k_cells Y'; (try simp only [List.cons_append, List.nil_append] at N'); (try dsimp only); (try k_lift B'); (try k_fold)))
local macro_rules | `(tactic| walk_at "CompSrc") => `(tactic| refine hold ?_)
local macro_rules | `(tactic| walk_at "CompEnd") => `(tactic| refine hold ?_)
local macro_rules | `(tactic| walk_at "CompGen") => `(tactic| refine hold ?_)

theorem carried_snoc : ∀ {vs : List Value} {ds : List PyData} {v : Value} {d : PyData}, CarriedAll vs ds → Carried v d → CarriedAll (vs ++ [v]) (ds ++ [d])
  | _, _, _, _, .nil, h => .cons h .nil
  | _, _, _, _, .cons a r, h => .cons a (carried_snoc r h)
noncomputable def sign (n : Int) : Str := ⟨#[n.toNat]⟩
noncomputable def textOf (ns : List Int) : Str := Txt.join (Str.ofString "") (ns.map sign)

set_option maxHeartbeats 2000000 in
theorem txt_spec {w : World} {ca : Addr} {nc : Nat} {cs : List Value} {ns : List Int} (hi : IntsAre cs ns) (hl : ns.length ≤ 1000) (hb : ∀ n ∈ ns, 0 ≤ n ∧ n ≤ 1000) :
    Spec w 2 305 [.ref ca] [(ca, W.listOf cs.toArray nc)] [] (fun v new => ∃ t, v = .str (textOf ns) t) := by
  have hcl : cs.length = ns.length := hi.length
  w_on
  intro dp un gd env outer A₀ base h₀ L m mean mg mb s Q E hB hF hK hN hT hfr hkd hdd hu hret
  refine wpAny_call ?_
  k_dflt k_enter
  (repeat' ((fail_if_success (with_reducible show Hold _)); first | (k_unfold; (try dsimp only)) | (k_end; first | kc_close | wrow_close) | walk1 | (dsimp only; walk1) | (leave1; try dsimp only)))
  unfold Hold
  rename Fr _ _ _ _ => F1
  rename News _ _ _ _ => N1
  refine LCg.CompSrc.ledger rfl F1 N1 (List.Mem.head _) (small_line (by simp; omega)) ?_
  intro g0
  refine comp_ind (fun i ys nx => nx = [(ca, W.listOf cs.toArray nc)] ∧ CarriedAll ys ((ns.take i).map fun n => PyData.str (sign n))) ⟨rfl, .nil⟩ ?step ?fin
  case step =>
    rintro i ys nx v I oI C oC D m₂ h tk E' hlt ⟨rfl, hc⟩ hv hC hx F' N' off ne
    obtain ⟨n, t, rfl, hn⟩ := hi.at i v (by simpa using hv)
    have hb' := hb n (List.mem_of_getElem? hn)
    simp only [LCg.Off3, and_true] at off
    (repeat' ((fail_if_success (with_reducible show Hold _)); first | (k_unfold; (try dsimp only)) | (k_end; first | kc_close | wrow_close) | ((with_reducible show wpAny _ _ (call _ _) _ _ _); (try dsimp only); first | ((with_reducible show wpAny _ _ (call (Value.builtin "chr") [Value.int _ _]) _ _ _); (refine chr_of_range (by omega) (by omega) ?_))) | walk1 | (dsimp only; walk1) | (leave1; try dsimp only)))
    unfold Hold
    rename Fr _ _ _ _ => F3
    rename News _ _ _ _ => N3
    refine LCg.CompEnd.intro F3 N3 [(ca, W.listOf cs.toArray nc)] (fun p hp => hp) ⟨off, trivial⟩ (Or.inr ⟨_, .head _, rfl, _, rfl⟩) ⟨rfl, ?_⟩
    rw [take_snoc hn, List.map_append]
    exact carried_snoc hc (.str _ _)
  case fin =>
    rintro ys nx ⟨rfl, hc⟩
    (repeat' ((fail_if_success (with_reducible show Hold _)); first | (k_unfold; (try dsimp only)) | (k_end; first | kc_close | wrow_close) | ((with_reducible show wpAny _ _ (call _ _) _ _ _); (try dsimp only); first | ((with_reducible show wpAny _ _ (call (Value.builtin "str.join") _) _ _ _); ((try dsimp only [List.nil_append, List.cons_append]); refine hold ?_))) | walk1 | (dsimp only; walk1) | (leave1; try dsimp only)))
    unfold Hold
    rename Fr _ _ _ _ => F3
    rename News _ _ _ _ => N3
    have e : cs.toArray.size = ns.length := by simp [hcl]
    rw [e, List.take_length] at hc
    refine KT.join_B (g := sign) 1 (isList_M N3 (.head _)) hc (fun a ha => by show (1 : Nat) ≤ 1; exact Nat.le_refl _) (by omega) (by decide) fun t' k => ?_
    (repeat' ((fail_if_success (with_reducible show Hold _)); first | (k_unfold; (try dsimp only)) | (k_end; first | kc_close | wrow_close) | walk1 | (dsimp only; walk1) | (leave1; try dsimp only)))
    all_goals (refine' hret _ _ _ _ ?zp ?zf ?zn ?zk ?zr; (case zf => k_asm); (case zn => k_asm); (case zk => refine keep_mut (by k_asm) (by k_asm) hN (by k_asm) ?_; repeat' (first | (with_reducible refine fac ?_ ?_) | (with_reducible exact List.forall_mem_nil _) | exact Or.inr (by k_mem) | exact Or.inl (List.Mem.head _) | exact Or.inl (.tail _ (.head _)) | exact Or.inl (.tail _ (.tail _ (.head _)))))); (case zr => exact fresh_of (by k_asm) (by k_asm)); (case zp => exact ⟨_, rfl⟩)

theorem txt_use {w : World} {ca : Addr} {nc : Nat} {cs : List Value} {ns : List Int}
    {dp un : Nat} {gd : Option (List Code)} {env : Env} {outer : List Env} {A₀ : Around} {base h₀ : Heap} {L : Addr} {m : Str → Option Value} {mean : ExcName → Option Value} {mg mb : Str → Option Value} {s : Shared} {Q E : Value → Shared → Prop} {news : Led}
    (B : Below A₀ base outer h₀) (F : Fr h₀ L s.heap m) (X : (KF w.params).In h₀) (N : News h₀ L s.heap news) (T : Top q LZ mean mg mb h₀) (hf : env.frame = some L) (hk : env.scope.kind = .function) (hd : dp + 2 < recursionLimit) (hu : un + 8 * 2 < cLine)
    (m1 : (ca, W.listOf cs.toArray nc) ∈ news) (hi : IntsAre cs ns) (hln : ns.length ≤ 1000) (hb : ∀ n ∈ ns, 0 ≤ n ∧ n ≤ 1000)
    (h : ∀ t' h' tk', Fr h₀ L h' m → News h₀ L h' news → Q (.str (textOf ns) t') { s with heap := h', toks := tk' }) :
    wpAny (model PG w) (top dp un gd env outer) (call (.ref 305) [.ref ca]) Q E s :=
  (txt_spec (nc := nc) hi hln hb) dp un gd env outer A₀ base h₀ L m mean mg mb s Q E B F X (by
    intro p hp
    simp only [List.mem_cons, List.not_mem_nil, or_false] at hp
    rcases hp with rfl <;> exact N _ (by assumption)) T hf hk hd hu (fun v new h' tk' hP F' _ K' _ => by
    obtain ⟨t', rfl⟩ := hP
    exact h t' h' tk' F' (News.over N K' fun _ _ h => nomatch h))

set_option maxHeartbeats 2000000 in
theorem take_spec {w : World} {set sd tab ti op pt ptd pr fd pa pd ca : Addr} {f co : Int} {tf a b c d e f' b1 b2 b3 : Tok} {z : SZ} {n1 nl n4 nc : Nat} {its : Array Value} {cs : List Value} {ns : List Int}
    (hi : IntsAre cs ns) (hln : ns.length ≤ 1000) (hb : ∀ n ∈ ns, 0 ≤ n ∧ n ≤ 1000) (hx : its[(0 : Int).toNat]? = some (.ref pa)) :
    Spec w 10 595 [.ref set] [(set, instObj 598 sd), (sd, setObj w tab ti op pt f tf z), (pt, instObj 506 ptd), (ptd, ptObj w pr fd co a b c d e f' n1), (pr, W.listOf its nl), (pa, instObj 422 pd), (pd, portObj w ca b1 b2 b3 n4), (ca, W.listOf cs.toArray nc)] [] (fun v new => ∃ t, v = .str (textOf ns) t) := by
  w_on
  intro dp un gd env outer A₀ base h₀ L m mean mg mb s Q E hB hF hK hN hT hfr hkd hdd hu hret
  refine wpAny_call ?_
  k_dflt k_enter
  (repeat' ((fail_if_success (with_reducible show Hold _)); first | (k_unfold; (try dsimp only)) | (k_end; first | kc_close | wrow_close) | ((with_reducible show wpAny _ _ (call _ _) _ _ _); (try dsimp only); first | ((with_reducible show wpAny _ _ (call (Value.ref 305) _) _ _ _); (k_dflt (apply txt_use); walk_at "kz2"; (try dsimp only); (try k_sweep)))) | ((with_reducible show wpAny _ _ (subscriptTail _ _ _ _) _ _ _); (try dsimp only); first | ((with_reducible show wpAny _ _ (subscriptTail _ _ (Value.ref _) (Value.int _ _)) _ _ _); k_dflt (refine' item_M ?k1 ?k2 ?k4 ?k5 ?k3 ?_ ?k6; (case k1 => k_asm); (case k2 => k_mem); (case k3 => assumption); (case k4 => first | with_reducible assumption | omega); (case k5 => first | with_reducible assumption | omega); (case k6 => with_unfolding_all rfl); k_whole))) | walk1 | (dsimp only; walk1) | (leave1; try dsimp only)))
  all_goals (refine' hret _ _ _ _ ?zp ?zf ?zn ?zk ?zr; (case zf => k_asm); (case zn => k_asm); (case zk => refine keep_mut (by k_asm) (by k_asm) hN (by k_asm) ?_; repeat' (first | (with_reducible refine fac ?_ ?_) | (with_reducible exact List.forall_mem_nil _) | exact Or.inr (by k_mem) | exact Or.inl (List.Mem.head _) | exact Or.inl (.tail _ (.head _)) | exact Or.inl (.tail _ (.tail _ (.head _)))))); (case zr => exact fresh_of (by k_asm) (by k_asm)); (case zp => exact ⟨_, rfl⟩)

set_option maxHeartbeats 2000000 in
theorem codes_spec {w : World} {sto std tab tx td la : Addr} {a1 a b : Tok} {n2 n nc : Nat} {cs : List Value} {ns : List Int} (hi : IntsAre cs ns) (hln : ns.length ≤ 1000) :
    Spec w 6 310 [.ref sto, .ref tx] [(sto, instObj 967 std), (std, stoObj w tab a1 n2), (tx, instObj 191 td), (td, textObj w la a b n), (la, W.listOf cs.toArray nc)] []
      (fun v new => ∃ D ys n', v = .ref D ∧ (D, W.listOf ys.toArray n') ∈ new ∧ IntsAre ys ns) := by
  have hcl : cs.length = ns.length := hi.length
  have hcz : cs.toArray.size ≤ 1000 := by simp; omega
  w_on
  intro dp un gd env outer A₀ base h₀ L m mean mg mb s Q E hB hF hK hN hT hfr hkd hdd hu hret
  refine wpAny_call ?_
  k_dflt k_enter
  (repeat' ((fail_if_success (with_reducible show Hold _)); first | (k_unfold; (try dsimp only)) | (k_end; first | kc_close | wrow_close) | ((with_reducible show wpAny _ _ (call _ _) _ _ _); (try dsimp only); first | ((with_reducible show wpAny _ _ (call (Value.builtin "len") [Value.ref _]) _ _ _); k_dflt (refine' len_M ?k1 ?k2 ?k3 ?_; (case k1 => k_asm); (case k2 => k_mem); (case k3 => first | assumption | (simp only [Array.size_push]; omega)); k_whole); (try dsimp only))) | walk1 | (dsimp only; walk1) | (leave1; try dsimp only)))
  unfold Hold
  rename Fr _ _ _ _ => F1
  rename News _ _ _ _ => N1
  rename IsRange _ _ _ _ _ _ _ _ => R1
  refine LCg.CompSrc.range rfl F1 N1 R1 (PySem.small_one (by omega) (by omega) (by omega) (by omega)) (range_size _) (small_line hln) ?_
  intro g0
  refine comp_keep (fun i ys => IntsAre ys (ns.take i)) .nil ?step ?fin
  case step =>
    rintro i ys v I oI C oC D m₂ h tk E' hlt hJ ⟨t, rfl⟩ hC hx F' N' off ne
    rw [Int.zero_add] at hx
    have off0 := off
    simp only [LCg.Off3, and_true] at off
    obtain ⟨vi, hvi⟩ : ∃ v, cs.toArray[(i : Int).toNat]? = some v := ⟨cs[i], by simp⟩
    obtain ⟨k, t', rfl, hn⟩ := IntsAre.at (by assumption : IntsAre cs ns) i vi (by simpa using hvi)
    (repeat' ((fail_if_success (with_reducible show Hold _)); first | (k_unfold; (try dsimp only)) | (k_end; first | kc_close | wrow_close) | ((with_reducible show wpAny _ _ (subscriptTail _ _ _ _) _ _ _); (try dsimp only); first | ((with_reducible show wpAny _ _ (subscriptTail _ _ (Value.ref _) (Value.int _ _)) _ _ _); k_dflt (refine' item_M ?k1 ?k2 ?k4 ?k5 ?k3 ?_ ?k6; (case k1 => k_asm); (case k2 => k_mem); (case k3 => assumption); (case k4 => first | with_reducible assumption | omega); (case k5 => first | with_reducible assumption | omega); (case k6 => with_unfolding_all rfl); k_whole))) | walk1 | (dsimp only; walk1) | (leave1; try dsimp only)))
    unfold Hold
    rename Fr _ _ _ _ => F3
    rename News _ _ _ _ => N3
    refine comp_keep_end F3 N3 (by repeat' (first | (with_reducible refine fac ?_ ?_) | (with_reducible exact List.forall_mem_nil _) | k_mem)) off0 trivial ?_
    rw [take_snoc hn]
    exact ints_snoc hJ
  case fin =>
    rintro ys hJ
    rw [List.take_length] at hJ
    (repeat' ((fail_if_success (with_reducible show Hold _)); first | (k_unfold; (try dsimp only)) | (k_end; first | kc_close | wrow_close) | walk1 | (dsimp only; walk1) | (leave1; try dsimp only)))
    all_goals (refine' hret _ _ _ _ ?zp ?zf ?zn ?zk ?zr; (case zf => k_asm); (case zn => k_asm); (case zk => refine keep_mut (by k_asm) (by k_asm) hN (by k_asm) ?_; repeat' (first | (with_reducible refine fac ?_ ?_) | (with_reducible exact List.forall_mem_nil _) | exact Or.inr (by k_mem) | exact Or.inl (List.Mem.head _) | exact Or.inl (.tail _ (.head _)) | exact Or.inl (.tail _ (.tail _ (.head _)))))); (case zr => exact fresh_of (by k_asm) (by k_asm)); (case zp => exact ⟨_, _, _, rfl, by k_mem, by assumption⟩)

end
/-! ## ports and rows, as a tail of the ledger -/
structure PB where
  ra : Addr
  rd : Addr
  pa : Addr
  pd : Addr
  ca : Addr
  la : Addr
  a2 : Tok
  a3 : Tok
  b1 : Tok
  b2 : Tok
  b3 : Tok
  n3 : Nat
  n4 : Nat
  nc : Nat
  nl : Nat
  cs : List Value
  ls : List Value
  ks : List Int
  rs : List Int
/-- the number of the port at a place of the rows -/
def numOf (j : Nat) : Int := if j = 0 then 0 else (j : Int) + 1
theorem numOf_zero : numOf 0 = 0 := rfl
theorem numOf_succ (j : Nat) : numOf (j + 1) = (j : Int) + 2 := by unfold numOf; rw [if_neg (Nat.succ_ne_zero j)]; omega
theorem numOf_nonneg (j : Nat) : 0 ≤ numOf j := by unfold numOf; split <;> omega
theorem numOf_le (j : Nat) : numOf j ≤ (j : Int) + 1 := by unfold numOf; split <;> omega
theorem numOf_inj {i j : Nat} (h : numOf i = numOf j) : i = j := by
  unfold numOf at h
  split at h <;> split at h <;> omega
structure PBIn (w : World) (l : Led) (its rv : Array Value) (j : Nat) (b : PB) : Prop where
  pa : its[(numOf j).toNat]? = some (.ref b.pa)
  i1 : (b.pa, instObj 422 b.pd) ∈ l
  i2 : (b.pd, portObj w b.ca b.b1 b.b2 b.b3 b.n4) ∈ l
  i3 : (b.ca, W.listOf b.cs.toArray b.nc) ∈ l
  i4 : (b.la, W.listOf b.ls.toArray b.nl) ∈ l
  i5 : rv[j]? = some (.ref b.la)
  h1 : IntsAre b.cs b.ks
  h2 : IntsAre b.ls b.rs
structure PBRef (w : World) (l : Led) (pv : Array Value) (j : Nat) (b : PB) : Prop where
  ra : pv[j]? = some (.ref b.ra)
  i1 : (b.ra, instObj 212 b.rd) ∈ l
  i2 : (b.rd, refObj w ((j : Int) + 2) b.a2 b.a3 b.n3) ∈ l
structure PortT (w : World) (bs : List PB) (its pv rv : Array Value) (l : Led) : Prop where
  nd : (l.map (·.1)).Nodup
  sits : its.size = bs.length + 1
  spv : pv.size + 1 = bs.length
  srv : rv.size = bs.length
  row : ∀ (j : Nat) (b : PB), bs[j]? = some b → PBIn w l its rv j b
  ref : ∀ (j : Nat) (b : PB), bs[j + 1]? = some b → PBRef w l pv j b
  sep : ∀ (i j : Nat) (b d : PB), bs[i]? = some b → bs[j]? = some d → b.ca ≠ d.la ∧ (i ≠ j → b.ca ≠ d.ca ∧ b.la ≠ d.la)
def Even (M : Nat) (bs : List PB) : Prop := ∀ b ∈ bs, b.ks = b.rs ∧ b.ks.length ≤ M ∧ ∀ n ∈ b.ks, 0 ≤ n ∧ n ≤ 1000
theorem Even.mono {M M' : Nat} {bs : List PB} (h : Even M bs) (hm : M ≤ M') : Even M' bs := fun b hb => ⟨(h b hb).1, Nat.le_trans (h b hb).2.1 hm, (h b hb).2.2⟩
def setIn (l : Led) (a : Addr) (o : Obj) : Led := l.map fun p => if p.1 = a then (a, o) else p
theorem setIn_map (l : Led) (a : Addr) (o : Obj) : (setIn l a o).map (·.1) = l.map (·.1) := by
  unfold setIn
  rw [List.map_map]
  refine List.map_congr_left fun p _ => ?_
  show (if p.1 = a then (a, o) else p).1 = p.1
  split
  · rename_i e; exact e.symm
  · rfl
theorem mem_setIn {l : Led} {a : Addr} {o : Obj} {p : Addr × Obj} (h : p ∈ l) (hn : p.1 ≠ a) : p ∈ setIn l a o := List.mem_map.mpr ⟨p, h, by rw [if_neg hn]⟩
theorem self_setIn {l : Led} {a : Addr} {o o₀ : Obj} (h : (a, o₀) ∈ l) : (a, o) ∈ setIn l a o := List.mem_map.mpr ⟨_, h, by rw [if_pos rfl]⟩
theorem of_setIn {l : Led} {a : Addr} {o : Obj} {p : Addr × Obj} (h : p ∈ setIn l a o) : (p ∈ l ∧ p.1 ≠ a) ∨ p = (a, o) := by
  obtain ⟨q, hq, e⟩ := List.mem_map.mp h
  by_cases hn : q.1 = a
  · rw [if_pos hn] at e; exact .inr e.symm
  · rw [if_neg hn] at e; subst e; exact .inl ⟨hq, hn⟩
theorem one_of {l : Led} (hn : (l.map (·.1)).Nodup) {p q : Addr × Obj} (hp : p ∈ l) (hq : q ∈ l) (e : p.1 = q.1) : p = q := by
  induction l with
  | nil => nomatch hp
  | cons x r ih =>
    rw [List.map_cons, List.nodup_cons] at hn
    rcases List.mem_cons.mp hp with rfl | hp
    · rcases List.mem_cons.mp hq with e' | hq
      · exact e'.symm
      · exact absurd (List.mem_map.mpr ⟨q, hq, e.symm⟩) hn.1
    · rcases List.mem_cons.mp hq with e' | hq
      · rw [e'] at e; exact absurd (List.mem_map.mpr ⟨p, hp, e⟩) hn.1
      · exact ih hn.2 hp hq
theorem inst_ne_list {l : Led} (hn : (l.map (·.1)).Nodup) {x c d a : Addr} {its : Array Value} {n : Nat} (h1 : (x, instObj c d) ∈ l) (h2 : (a, W.listOf its n) ∈ l) : x ≠ a := fun e => by
  have := one_of hn h1 h2 e
  have := congrArg (fun p : Addr × Obj => p.2.data) this
  nomatch this
theorem dict_ne_list {l : Led} (hn : (l.map (·.1)).Nodup) {x a : Addr} {es : List DictEntry} {k n : Nat} {its : Array Value} (h1 : (x, dictOf es k) ∈ l) (h2 : (a, W.listOf its n) ∈ l) : x ≠ a := fun e => by
  have := one_of hn h1 h2 e
  have := congrArg (fun p : Addr × Obj => p.2.data) this
  nomatch this
theorem get_set {bs : List PB} {j i : Nat} {b' d : PB} (h : (bs.set j b')[i]? = some d) : (i = j ∧ d = b' ∧ j < bs.length) ∨ (i ≠ j ∧ bs[i]? = some d) := by
  rw [List.getElem?_set] at h
  by_cases e : j = i
  · rw [if_pos e] at h
    split at h
    · cases h; exact .inl ⟨e.symm, rfl, by omega⟩
    · cases h
  · rw [if_neg e] at h; exact .inr ⟨Ne.symm e, h⟩
theorem set_get {bs : List PB} {j : Nat} {b b' : PB} (h : bs[j]? = some b) : (bs.set j b')[j]? = some b' := by
  rw [List.getElem?_set, if_pos rfl, if_pos (List.getElem?_eq_some_iff.mp h).1]
section
variable {w : World} {bs : List PB} {its pv rv : Array Value} {l : Led} {j : Nat} {b : PB}
/-- codes written at a port -/
theorem PortT.put (h : PortT w bs its pv rv l) (hj : bs[j]? = some b) {x : Int} {t : Tok} {nc : Nat} :
    PortT w (bs.set j { b with cs := b.cs ++ [.int x t], nc := nc, ks := b.ks ++ [x] }) its pv rv (setIn l b.ca (W.listOf (b.cs ++ [Value.int x t]).toArray nc)) := by
  have hb := h.row j b hj
  refine ⟨by rw [setIn_map]; exact h.nd, by rw [List.length_set]; exact h.sits, by rw [List.length_set]; exact h.spv, by rw [List.length_set]; exact h.srv, ?_, ?_, ?_⟩
  · intro i d hd
    rcases get_set hd with ⟨rfl, rfl, _⟩ | ⟨hi, hd⟩
    · exact ⟨hb.pa, mem_setIn hb.i1 (inst_ne_list h.nd hb.i1 hb.i3), mem_setIn hb.i2 (dict_ne_list h.nd hb.i2 hb.i3), self_setIn hb.i3, mem_setIn hb.i4 (Ne.symm (h.sep i i b b hj hj).1), hb.i5, ints_snoc hb.h1, hb.h2⟩
    · have hd' := h.row i d hd
      exact ⟨hd'.pa, mem_setIn hd'.i1 (inst_ne_list h.nd hd'.i1 hb.i3), mem_setIn hd'.i2 (dict_ne_list h.nd hd'.i2 hb.i3), mem_setIn hd'.i3 ((h.sep i j d b hd hj).2 hi).1, mem_setIn hd'.i4 (Ne.symm (h.sep j i b d hj hd).1), hd'.i5, hd'.h1, hd'.h2⟩
  · intro i d hd
    rcases get_set hd with ⟨rfl, rfl, _⟩ | ⟨hi, hd⟩
    · have hr := h.ref i b hj
      exact ⟨hr.ra, mem_setIn hr.i1 (inst_ne_list h.nd hr.i1 hb.i3), mem_setIn hr.i2 (dict_ne_list h.nd hr.i2 hb.i3)⟩
    · have hr := h.ref i d hd
      exact ⟨hr.ra, mem_setIn hr.i1 (inst_ne_list h.nd hr.i1 hb.i3), mem_setIn hr.i2 (dict_ne_list h.nd hr.i2 hb.i3)⟩
  · intro i k d e hd he
    rcases get_set hd with ⟨rfl, rfl, _⟩ | ⟨hi, hd⟩
    · rcases get_set he with ⟨rfl, rfl, _⟩ | ⟨hk, he⟩
      · exact ⟨(h.sep k k b b hj hj).1, fun hh => absurd rfl hh⟩
      · exact h.sep i k b e hj he
    · rcases get_set he with ⟨rfl, rfl, _⟩ | ⟨hk, he⟩
      · exact h.sep i k d b ‹bs[i]? = some d› hj
      · exact h.sep i k d e ‹bs[i]? = some d› he
/-- codes set down in the state's rows -/
theorem PortT.note (h : PortT w bs its pv rv l) (hj : bs[j]? = some b) {x : Int} {t : Tok} {nl : Nat} :
    PortT w (bs.set j { b with ls := b.ls ++ [.int x t], nl := nl, rs := b.rs ++ [x] }) its pv rv (setIn l b.la (W.listOf (b.ls ++ [Value.int x t]).toArray nl)) := by
  have hb := h.row j b hj
  refine ⟨by rw [setIn_map]; exact h.nd, by rw [List.length_set]; exact h.sits, by rw [List.length_set]; exact h.spv, by rw [List.length_set]; exact h.srv, ?_, ?_, ?_⟩
  · intro i d hd
    rcases get_set hd with ⟨rfl, rfl, _⟩ | ⟨hi, hd⟩
    · exact ⟨hb.pa, mem_setIn hb.i1 (inst_ne_list h.nd hb.i1 hb.i4), mem_setIn hb.i2 (dict_ne_list h.nd hb.i2 hb.i4), mem_setIn hb.i3 (h.sep i i b b hj hj).1, self_setIn hb.i4, hb.i5, hb.h1, ints_snoc hb.h2⟩
    · have hd' := h.row i d hd
      exact ⟨hd'.pa, mem_setIn hd'.i1 (inst_ne_list h.nd hd'.i1 hb.i4), mem_setIn hd'.i2 (dict_ne_list h.nd hd'.i2 hb.i4), mem_setIn hd'.i3 (h.sep i j d b hd hj).1, mem_setIn hd'.i4 ((h.sep i j d b hd hj).2 hi).2, hd'.i5, hd'.h1, hd'.h2⟩
  · intro i d hd
    rcases get_set hd with ⟨rfl, rfl, _⟩ | ⟨hi, hd⟩
    · have hr := h.ref i b hj
      exact ⟨hr.ra, mem_setIn hr.i1 (inst_ne_list h.nd hr.i1 hb.i4), mem_setIn hr.i2 (dict_ne_list h.nd hr.i2 hb.i4)⟩
    · have hr := h.ref i d hd
      exact ⟨hr.ra, mem_setIn hr.i1 (inst_ne_list h.nd hr.i1 hb.i4), mem_setIn hr.i2 (dict_ne_list h.nd hr.i2 hb.i4)⟩
  · intro i k d e hd he
    rcases get_set hd with ⟨rfl, rfl, _⟩ | ⟨hi, hd⟩
    · rcases get_set he with ⟨rfl, rfl, _⟩ | ⟨hk, he⟩
      · exact ⟨(h.sep k k b b hj hj).1, fun hh => absurd rfl hh⟩
      · exact h.sep i k b e hj he
    · rcases get_set he with ⟨rfl, rfl, _⟩ | ⟨hk, he⟩
      · exact h.sep i k d b ‹bs[i]? = some d› hj
      · exact h.sep i k d e ‹bs[i]? = some d› he
/-- a port more -/
theorem PortT.more (h : PortT w bs its pv rv l) {ra rd pa pd ca la : Addr} {a2 a3 b1 b2 b3 : Tok} {n3 n4 nc nl : Nat}
    (hd : ([ra, rd, pa, pd, ca, la] : List Addr).Nodup) (hl : ∀ a ∈ ([ra, rd, pa, pd, ca, la] : List Addr), ∀ p ∈ l, p.1 ≠ a) :
    PortT w (bs ++ [⟨ra, rd, pa, pd, ca, la, a2, a3, b1, b2, b3, n3, n4, nc, nl, [], [], [], []⟩]) (its.push (.ref pa)) (pv.push (.ref ra)) (rv.push (.ref la))
      ((ra, instObj 212 rd) :: (rd, refObj w (its.size : Int) a2 a3 n3) :: (pa, instObj 422 pd) :: (pd, portObj w ca b1 b2 b3 n4) :: (ca, W.listOf #[] nc) :: (la, W.listOf #[] nl) :: l) := by
  have hne : 1 ≤ bs.length := by have := h.spv; omega
  have sub : ∀ p ∈ l, p ∈ ((ra, instObj 212 rd) :: (rd, refObj w (its.size : Int) a2 a3 n3) :: (pa, instObj 422 pd) :: (pd, portObj w ca b1 b2 b3 n4) :: (ca, W.listOf #[] nc) :: (la, W.listOf #[] nl) :: l) :=
    fun p hp => .tail _ (.tail _ (.tail _ (.tail _ (.tail _ (.tail _ hp)))))
  have old : ∀ (i : Nat) (d : PB), (bs ++ [⟨ra, rd, pa, pd, ca, la, a2, a3, b1, b2, b3, n3, n4, nc, nl, [], [], [], []⟩])[i]? = some d → (i < bs.length ∧ bs[i]? = some d) ∨ (i = bs.length ∧ d = ⟨ra, rd, pa, pd, ca, la, a2, a3, b1, b2, b3, n3, n4, nc, nl, [], [], [], []⟩) := fun i d hd => by
    by_cases hi : i < bs.length
    · rw [List.getElem?_append_left hi] at hd; exact .inl ⟨hi, hd⟩
    · have := (List.getElem?_eq_some_iff.mp hd).1
      rw [List.length_append, List.length_singleton] at this
      have e : i = bs.length := by omega
      subst e
      rw [List.getElem?_concat_length] at hd
      cases hd; exact .inr ⟨rfl, rfl⟩
  have np : ∀ i, i < bs.length → (numOf i).toNat < its.size := fun i hi => by
    have := h.sits; have := numOf_le i; have := numOf_nonneg i; omega
  refine ⟨?_, by simp [h.sits], by simp [h.spv], by simp [h.srv], ?_, ?_, ?_⟩
  · show (ra :: rd :: pa :: pd :: ca :: la :: l.map (·.1)).Nodup
    show ([ra, rd, pa, pd, ca, la] ++ l.map (·.1)).Nodup
    refine List.nodup_append.mpr ⟨hd, h.nd, fun a ha c hc e => ?_⟩
    obtain ⟨p, hp, rfl⟩ := List.mem_map.mp hc
    exact hl a ha p hp e.symm
  · intro i d hd'
    rcases old i d hd' with ⟨hi, e⟩ | ⟨rfl, rfl⟩
    · have r := h.row i d e
      refine ⟨?_, sub _ r.i1, sub _ r.i2, sub _ r.i3, sub _ r.i4, ?_, r.h1, r.h2⟩
      · rw [Array.getElem?_push, if_neg (Nat.ne_of_lt (np i hi))]; exact r.pa
      · rw [Array.getElem?_push, if_neg (by rw [h.srv]; omega)]; exact r.i5
    · refine ⟨?_, .tail _ (.tail _ (.head _)), .tail _ (.tail _ (.tail _ (.head _))), .tail _ (.tail _ (.tail _ (.tail _ (.head _)))), .tail _ (.tail _ (.tail _ (.tail _ (.tail _ (.head _))))), ?_, .nil, .nil⟩
      · have e : (numOf bs.length).toNat = its.size := by
          rw [h.sits]; unfold numOf; rw [if_neg (by omega)]; omega
        rw [e]; simp
      · rw [← h.srv]; simp
  · intro i d hd'
    rcases old (i + 1) d hd' with ⟨hi, e⟩ | ⟨e, rfl⟩
    · have r := h.ref i d e
      refine ⟨?_, sub _ r.i1, sub _ r.i2⟩
      rw [Array.getElem?_push, if_neg (by have := h.spv; omega)]; exact r.ra
    · have ei : i = pv.size := by have := h.spv; omega
      have es : ((i : Int) + 2) = (its.size : Int) := by have := h.spv; have := h.sits; omega
      refine ⟨?_, .head _, ?_⟩
      · rw [ei]; simp
      · rw [es]; exact .tail _ (.head _)
  · have q : ∀ (i : Nat) (d : PB), bs[i]? = some d → (∀ a ∈ ([ra, rd, pa, pd, ca, la] : List Addr), d.ca ≠ a ∧ d.la ≠ a) := fun i d e a ha =>
      ⟨hl a ha _ (h.row i d e).i3, hl a ha _ (h.row i d e).i4⟩
    have hcl : ca ≠ la := by
      have := (List.nodup_cons.mp (List.nodup_cons.mp (List.nodup_cons.mp (List.nodup_cons.mp (List.nodup_cons.mp hd).2).2).2).2).1
      simpa using this
    intro i k d e hd' he'
    rcases old i d hd' with ⟨hi, e1⟩ | ⟨rfl, rfl⟩
    · rcases old k e he' with ⟨hk, e2⟩ | ⟨rfl, rfl⟩
      · exact h.sep i k d e e1 e2
      · exact ⟨(q i d e1 la (by simp)).1, fun _ => ⟨(q i d e1 ca (by simp)).1, (q i d e1 la (by simp)).2⟩⟩
    · rcases old k e he' with ⟨hk, e2⟩ | ⟨rfl, rfl⟩
      · exact ⟨Ne.symm (q k e e2 ca (by simp)).2, fun _ => ⟨Ne.symm (q k e e2 ca (by simp)).1, Ne.symm (q k e e2 la (by simp)).2⟩⟩
      · exact ⟨hcl, fun hh => absurd rfl hh⟩
end
theorem Even.set {M : Nat} {bs : List PB} {j : Nat} {b : PB} (h : Even M bs) (h1 : b.ks = b.rs) (h2 : b.ks.length ≤ M + 1) (h3 : ∀ n ∈ b.ks, 0 ≤ n ∧ n ≤ 1000) : Even (M + 1) (bs.set j b) := fun d hd => by
  rcases List.mem_or_eq_of_mem_set hd with hd | rfl
  · exact h.mono (Nat.le_succ _) d hd
  · exact ⟨h1, h2, h3⟩

local macro_rules | `(tactic| k_lt $h:ident) => `(tactic| skip)
local macro_rules | `(tactic| walk_at "FinE") => `(tactic| ((unfold LCg.FinE); intro D' h' tk' F' N' o1'; (try simp only [List.nil_append, List.cons_append] at N'); (try dsimp only)))
local macro_rules | `(tactic| walk_at "FinA") => `(tactic| ((unfold LCg.FinA); intro D' h' tk' F' N' o1'; (try simp only [List.nil_append, List.cons_append] at N'); (try dsimp only)))
local macro_rules | `(tactic| kpc_g) => `(tactic| first | with_reducible assumption | tb_rel | ((repeat (with_reducible apply kfs5)); (repeat (with_reducible apply mt)); with_reducible assumption))
local macro_rules | `(tactic| lge_here) => `(tactic| first
  | with_reducible assumption
  | ((with_reducible apply ne_sd); (with_reducible assumption); (with_reducible focus ((repeat (first | ((first | apply kft0 | apply kfr0 | apply kft1 | apply kfr1 | apply kft2 | apply kfr2 | apply kft3 | apply kfr3); tb_rel) | apply kfs4)); done)))
  | ((with_reducible apply lt_ne) <;> kpc_g)
  | ((with_reducible apply lt_ne1) <;> kpc_g)
  | ((with_reducible apply own_ne) <;> kpc_g)
  | ((with_reducible apply lt_lt_ne) <;> kpc_g)
  | ((with_reducible apply off1_at) <;> kpc_g)
  | ((with_reducible apply off3_at1) <;> kpc_g)
  | ((with_reducible apply off3_at2) <;> kpc_g)
  | ((with_reducible apply off3_at3) <;> kpc_g)
  | ((with_reducible apply ne3_1) <;> kpc_g)
  | ((with_reducible apply ne3_2) <;> kpc_g)
  | ((with_reducible apply ne3_3) <;> kpc_g)
  | ((with_reducible apply ne_all) <;> kpc_g)
  | ((with_reducible apply lt_ne2) <;> kpc_g)
  | ((with_reducible apply lt_ne3) <;> kpc_g)
  | ((with_reducible apply Nat.ne_of_lt) <;> kpc_g)
  | ((with_reducible apply Nat.ne_of_gt) <;> kpc_g))
local macro_rules | `(tactic| k_ne) => `(tactic| first | lge_here | ((with_reducible apply neS); lge_here) | (refine neN ?_; (try dsimp only); first | lge_here | ((with_reducible apply neS); lge_here) | omega))

set_option maxHeartbeats 2000000 in
theorem openstr_spec2 {w : World} {set sd pt ptd pr fd sto std tab al : Addr} {es : List DictEntry} {co : Int} {a b c d e f a1 : Tok} {n n1 n2 nl na : Nat} {its : Array Value}
    (hset : getL (.ofString "ports") es = some (some (.ref pt))) (hits : its.size < 1000) (e0pr : @Ne Nat set pr) (e1pr : @Ne Nat sd pr) (e2pr : @Ne Nat pt pr) (e3pr : @Ne Nat ptd pr) (e4pr : @Ne Nat sto pr) (e5pr : @Ne Nat std pr) (e6pr : @Ne Nat al pr) :
    Spec w 18 552 [.ref set, .ref sto, .ref al] [(set, instObj 598 sd), (sd, dictOf es n), (pt, instObj 506 ptd), (ptd, ptObj w pr fd co a b c d e f n1), (pr, W.listOf its nl), (sto, instObj 967 std), (std, stoObj w tab a1 n2), (al, W.listOf #[] na)] [pr]
      (fun v new => ∃ ra rd pa pd ca b1 b2 b3 a2 a3 n3 n4 nc nl' k, k = (its.size : Int) ∧ v = .ref ra ∧ ((@LT.lt Nat _ ca pd) ∧ (@LT.lt Nat _ pd pa) ∧ (@LT.lt Nat _ pa rd) ∧ (@LT.lt Nat _ rd ra) ∧ (@LT.lt Nat _ set ca) ∧ (@LT.lt Nat _ sd ca) ∧ (@LT.lt Nat _ pt ca) ∧ (@LT.lt Nat _ ptd ca) ∧ (@LT.lt Nat _ pr ca) ∧ (@LT.lt Nat _ sto ca) ∧ (@LT.lt Nat _ std ca) ∧ (@LT.lt Nat _ al ca)) ∧ new = [(ra, instObj 212 rd), (rd, refObj w k a2 a3 n3), (pa, instObj 422 pd), (pd, portObj w ca b1 b2 b3 n4), (ca, W.listOf #[] nc), (set, instObj 598 sd), (sd, dictOf es n), (pt, instObj 506 ptd), (ptd, ptObj w pr fd co a b c d e f n1), (pr, W.listOf (its.push (.ref pa)) nl'), (sto, instObj 967 std), (std, stoObj w tab a1 n2), (al, W.listOf #[] na)]) := by
  w_on
  intro dp un gd env outer A₀ base h₀ L m mean mg mb s Q E hB hF hK hN hT hfr hkd hdd hu hret
  refine wpAny_call ?_
  k_dflt k_enter
  (repeat' (first | (k_unfold; (try dsimp only)) | (k_end; first | kc_close | wrow_close) | ((with_reducible show wpAny _ _ (call _ _) _ _ _); (try dsimp only); first | ((with_reducible show wpAny _ _ (call (Value.builtin "len") [Value.ref _]) _ _ _); k_dflt (refine' len_M ?k1 ?k2 ?k3 ?_; (case k1 => k_asm); (case k2 => k_mem); (case k3 => first | assumption | (simp only [Array.size_push]; omega)); k_whole); (try dsimp only)) | ((try dsimp only [List.nil_append, List.cons_append]); (with_reducible show wpAny _ _ (call (Value.builtin "list.append") [Value.ref _, _]) _ _ _); k_dflt (refine' append_M ?k1 ?k2 ?k3 ?z ?_; (case k1 => k_asm); (case k2 => k_asm); (case k3 => k_upd); (case z => first | assumption | omega); k_whole); intros; (try k_sweep))) | walk1 | (dsimp only; walk1) | (leave1; try dsimp only)))
  all_goals (refine' hret _ _ _ _ ?zp ?zf ?zn ?zk ?zr; (case zf => k_asm); (case zn => k_asm); (case zk => refine keep_mut (by k_asm) (by k_asm) hN (by k_asm) ?_; repeat' (first | (with_reducible refine fac ?_ ?_) | (with_reducible exact List.forall_mem_nil _) | exact Or.inr (by k_mem) | exact Or.inl (List.Mem.head _) | exact Or.inl (.tail _ (.head _)) | exact Or.inl (.tail _ (.tail _ (.head _)))))); (case zr => exact fresh_of (by k_asm) (by k_asm)); (case zp => exact ⟨_, _, _, _, _, _, _, _, _, _, _, _, _, _, _, by (simp only [Array.size_push]; omega), rfl, (by refine ⟨?_, ?_, ?_, ?_, ?_, ?_, ?_, ?_, ?_, ?_, ?_, ?_⟩ <;> first | with_reducible assumption | ((with_reducible apply at_lt); (with_reducible assumption); k_memK) | ((with_reducible apply at_lt_lt); (with_reducible assumption); (with_reducible assumption); k_memK)), rfl⟩)


structure PR where
  l : Led
  b : PB
theorem own_set {l : Led} {FX : List Addr} {a : Addr} {o o₀ : Obj} (h : OwnOff l FX) (hm : (a, o₀) ∈ l) : OwnOff (setIn l a o) FX := fun p hp b hb => by
  rcases of_setIn hp with ⟨q, _⟩ | rfl
  · exact h p q b hb
  · exact h _ hm b hb
theorem PortT.j_lt {w : World} {bs : List PB} {its pv rv : Array Value} {l : Led} {j : Nat} {b : PB} (h : PortT w bs its pv rv l) (hj : bs[j]? = some b) : j + 1 < its.size := by
  have := h.sits; have := (List.getElem?_eq_some_iff.mp hj).1; omega
theorem PortT.arg {w : World} {bs : List PB} {its pv rv : Array Value} {l : Led} {j : Nat} {b : PB} (h : PortT w bs its pv rv l) (hj : bs[j + 1]? = some b) : its[((j : Int) + 2).toNat]? = some (.ref b.pa) := by
  rw [← numOf_succ]; exact (h.row _ b hj).pa
theorem IntsAre.len {vs : List Value} {ns : List Int} (h : IntsAre vs ns) : vs.length = ns.length := h.length
section
variable {prog : Program} {w : World} {A : Around} {E : Value → Shared → Prop} {s : Shared} {h₀ : Heap} {L : Addr} {m : Str → Option Value} {news l : Led} {bs : List PB} {its pv rv : Array Value}
theorem append_T {g : PR → Led} {FY : List Addr} {j : Nat} {b : PB} {x : Int} {t : Tok} {Q : Value → Shared → Prop} (F : Fr h₀ L s.heap m) (N : News h₀ L s.heap news) (hP : PortT w bs its pv rv l) (hj : bs[j]? = some b) (hl : ∀ p ∈ l, p ∈ news) (ho : OwnOff l FY) (R : RepF [b.la] l (fun r : PR => r.l) [] news g) (hz : b.rs.length ≤ 1000)
    (h : ∀ (r : PR) h', PortT w (bs.set j r.b) its pv rv r.l → (bs.set j r.b)[j]? = some r.b → r.b.ks = b.ks → r.b.rs = b.rs ++ [x] → OwnOff r.l FY → Fr h₀ L h' m → News h₀ L h' (g r) → Q .none { s with heap := h' }) :
    wpAny (model prog w) A (call (.builtin "list.append") [.ref b.la, .int x t]) Q E s := by
  have hb := hP.row j b hj
  have z := N _ (hl _ hb.i4)
  refine append_at z.1 (fun h' hs ho' => ?_) (small_line (by have := IntsAre.len hb.h2; simpa [this] using hz))
  rw [List.push_toArray] at ho'
  refine h ⟨setIn l b.la (W.listOf (b.ls ++ [Value.int x t]).toArray (b.nl + 1)), _⟩ h' (hP.note hj) (set_get hj) rfl rfl (own_set ho hb.i4) (F.change hs z.2.1 z.2.2) (R.news _ N (fun b' o e hb' => hs.extBut b' o (fun e' => hb' (by rw [e']; exact .head _)) e) (fun _ hp => nomatch hp) (fun p hp => ?_))
  rcases of_setIn hp with ⟨q, hn⟩ | rfl
  · exact ⟨hs.extBut _ _ hn (N p (hl p q)).1, (N p (hl p q)).2⟩
  · exact ⟨ho', z.2⟩
theorem spl_item {value slice : PySem.Expr} {spl : Addr} {n : Nat} {k : Int} {u : Tok} {Q : Value → Shared → Prop} (N : News h₀ L s.heap news) (hm : (spl, W.listOf pv n) ∈ news) (hP : PortT w bs its pv rv l) (h0 : 0 ≤ k) (h1 : k < (pv.size : Int)) (h2 : pv.size ≤ 1000)
    (h : ∀ (j : Nat) (b : PB), k = (j : Int) → bs[j + 1]? = some b → (b.ra, instObj 212 b.rd) ∈ l → (b.rd, refObj w ((j : Int) + 2) b.a2 b.a3 b.n3) ∈ l → (b.pa, instObj 422 b.pd) ∈ l → (b.pd, portObj w b.ca b.b1 b.b2 b.b3 b.n4) ∈ l → (b.ca, W.listOf b.cs.toArray b.nc) ∈ l → (b.la, W.listOf b.ls.toArray b.nl) ∈ l → IntsAre b.cs b.ks → IntsAre b.ls b.rs → Q (.ref b.ra) s)
    (hs : subscripted slice false (.ref spl) (.int k u) = operate [.ref spl, .int k u] (getItem (.ref spl) (.int k u)) := by with_unfolding_all rfl) :
    wpAny (model prog w) A (subscriptTail value slice (.ref spl) (.int k u)) Q E s := by
  obtain ⟨j, rfl⟩ : ∃ j : Nat, k = (j : Int) := ⟨k.toNat, by omega⟩
  have hjl : j + 1 < bs.length := by have := hP.spv; omega
  obtain ⟨b, hb⟩ := getElem?_of_lt hjl
  have r := hP.ref j b hb
  have q := hP.row _ b hb
  exact item_M N hm h0 (by omega) (by simpa using r.ra) (h j b rfl hb r.i1 r.i2 q.i1 q.i2 q.i3 q.i4 q.h1 q.h2) hs
theorem srl_item {value slice : PySem.Expr} {srl : Addr} {n : Nat} {k : Int} {j : Nat} {b : PB} {u : Tok} {Q : Value → Shared → Prop} (N : News h₀ L s.heap news) (hm : (srl, W.listOf rv n) ∈ news) (hP : PortT w bs its pv rv l) (hj : bs[j]? = some b) (hk : k = (j : Int)) (h2 : rv.size ≤ 1001)
    (h : Q (.ref b.la) s)
    (hs : subscripted slice false (.ref srl) (.int k u) = operate [.ref srl, .int k u] (getItem (.ref srl) (.int k u)) := by with_unfolding_all rfl) :
    wpAny (model prog w) A (subscriptTail value slice (.ref srl) (.int k u)) Q E s := by
  subst hk
  have hjl := (List.getElem?_eq_some_iff.mp hj).1
  have := hP.srv
  exact item_M N hm (by omega) (by omega) (by simpa using (hP.row j b hj).i5) h hs
theorem menu4 {value slice : PySem.Expr} {D : Addr} {n : Nat} {k : Int} {u t1 t2 t3 t4 : Tok} {Q : Value → Shared → Prop} (N : News h₀ L s.heap news) (hm : (D, W.listOf #[.int 97 t1, .int 10 t2, .int 955 t3, .int 32 t4] n) ∈ news) (h0 : 0 ≤ k) (h1 : k < 4)
    (h : ∀ c t, 0 ≤ c → c ≤ 1000 → Q (.int c t) s)
    (hs : subscripted slice false (.ref D) (.int k u) = operate [.ref D, .int k u] (getItem (.ref D) (.int k u)) := by with_unfolding_all rfl) :
    wpAny (model prog w) A (subscriptTail value slice (.ref D) (.int k u)) Q E s := by
  obtain ⟨j, rfl⟩ : ∃ j : Nat, k = (j : Int) := ⟨k.toNat, by omega⟩
  have hj : j < 4 := by omega
  have : ∃ c t, (#[Value.int 97 t1, Value.int 10 t2, Value.int 955 t3, Value.int 32 t4] : Array Value)[(j : Int).toNat]? = some (.int c t) ∧ 0 ≤ c ∧ c ≤ 1000 := by
    match j, hj with
    | 0, _ => exact ⟨97, t1, rfl, by omega, by omega⟩
    | 1, _ => exact ⟨10, t2, rfl, by omega, by omega⟩
    | 2, _ => exact ⟨955, t3, rfl, by omega, by omega⟩
    | 3, _ => exact ⟨32, t4, rfl, by omega, by omega⟩
  obtain ⟨c, t, e, c0, c1⟩ := this
  exact item_M N hm h0 (by omega) e (h c t c0 c1) hs
end

theorem newlineT {w : World} {set sd pt ptd pr fd sto std tab al : Addr} {es : List DictEntry} {a b c d e f a1 : Tok} {n n1 n2 nl na : Nat} {its pv rv : Array Value} {bs : List PB} {j : Nat} {bk : PB} 
    {dp un : Nat} {gd : Option (List Code)} {env : Env} {outer : List Env} {A₀ : Around} {base h₀ : Heap} {L : Addr} {m : Str → Option Value} {mean : ExcName → Option Value} {mg mb : Str → Option Value} {s : Shared} {Q E : Value → Shared → Prop} {news l : Led} {FY : List Addr} {g : PR → Led}
    (B : Below A₀ base outer h₀) (F : Fr h₀ L s.heap m) (X : (KF w.params).In h₀) (N : News h₀ L s.heap news) (T₀ : Top q LZ mean mg mb h₀) (hf : env.frame = some L) (hk : env.scope.kind = .function) (hd : dp + 18 < recursionLimit) (hu : un + 8 * 18 < cLine)
    (m1 : (set, instObj 598 sd) ∈ news) (m2 : (sd, dictOf es n) ∈ news) (hset : getL (.ofString "ports") es = some (some (.ref pt))) (m3 : (pt, instObj 506 ptd) ∈ news) (m4 : (ptd, ptObj w pr fd (numOf j) a b c d e f n1) ∈ news) (m5 : (pr, W.listOf its nl) ∈ news) (m6 : (sto, instObj 967 std) ∈ news) (m7 : (std, stoObj w tab a1 n2) ∈ news) (m8 : (al, W.listOf #[] na) ∈ news)
    (hP : PortT w bs its pv rv l) (hj : bs[j]? = some bk) (hz : bk.ks.length ≤ 900) (hits : its.size ≤ 1000) (e8 : @Ne Nat al bk.ca)
    (ho : OwnOff l FY) (s4 : ∀ a ∈ [set, sd, pt, ptd, pr, sto, std], a ∈ FY) (hl : ∀ p ∈ l, p ∈ news) (hFY : ∀ b ∈ FY, ∃ o, (b, o) ∈ news) (R : RepF [bk.ca] l (fun r : PR => r.l) [] news g)
    (h : ∀ (r : PR) h' tk', PortT w (bs.set (j) r.b) its pv rv r.l → (bs.set (j) r.b)[j]? = some r.b → r.b.ks = bk.ks ++ [10] → r.b.rs = bk.rs → OwnOff r.l FY → Fr h₀ L h' m → News h₀ L h' (g r) → Q (.ref 47) { s with heap := h', toks := tk' }) :
    wpAny (model PG w) (top dp un gd env outer) (call (.ref 566) [.ref set, .ref sto, .ref al]) Q E s := by
  have hb := hP.row _ bk hj
  have hlen := hP.j_lt hj
  have hcl : bk.cs.toArray.size ≤ 1000 := by have := IntsAre.len hb.h1; simp [this]; omega
  have en : ∀ x ∈ [set, sd, pt, ptd, pr, sto, std], @Ne Nat x bk.ca := fun x hx => own_ne hb.i3 ho (s4 x hx)
  have hco : numOf j < 100000 := by have := numOf_le j; omega
  refine (newline_spec (es := es) (its := its) (nl := nl) (co := numOf j) (ca := bk.ca) (cs := bk.cs.toArray) (nc := bk.nc) (n4 := bk.n4) (a := a) (b := b) (c := c) (d := d) (e := e) (f := f) (a1 := a1) (b1 := bk.b1) (b2 := bk.b2) (b3 := bk.b3) (n := n) (n1 := n1) (n2 := n2) (na := na) (pd := bk.pd) (fd := fd) (tab := tab) hset (numOf_nonneg j) hco hb.pa hcl (en set (by simp)) (en sd (by simp)) (en pt (by simp)) (en ptd (by simp)) (en pr (by simp)) (en sto (by simp)) (en std (by simp)) e8 (inst_ne_list hP.nd hb.i1 hb.i3) (dict_ne_list hP.nd hb.i2 hb.i3)).use (ρ := PR) (l := l) (fl := fun r => r.l) (S := []) (g := g) (FX := FY) (fun r v => v = .ref 47 ∧ PortT w (bs.set (j) r.b) its pv rv r.l ∧ r.b.ks = bk.ks ++ [10] ∧ r.b.rs = bk.rs) B F X N T₀ hf hk hd hu (fun p hp => ?_) hl R ho hFY (fun v new hPost => ?_) (fun r v h' tk' hPr F' N' O' => ?_)
  · simp only [List.mem_cons, List.not_mem_nil, or_false] at hp
    rcases hp with rfl | rfl | rfl | rfl | rfl | rfl | rfl | rfl | rfl | rfl | rfl
    all_goals first | assumption | exact hl _ (by assumption) | exact hl _ hb.i1 | exact hl _ hb.i2 | exact hl _ hb.i3
  · obtain ⟨rfl, t, nc', hm⟩ := hPost
    rw [List.push_toArray] at hm
    refine ⟨⟨setIn l bk.ca (W.listOf (bk.cs ++ [Value.int 10 t]).toArray nc'), _⟩, ⟨rfl, hP.put hj, rfl, rfl⟩, (fun e he => nomatch he), fun p hp => ?_⟩
    rcases of_setIn hp with ⟨q, hn⟩ | rfl
    · exact .inl ⟨q, by simpa using hn⟩
    · exact .inr ⟨hm, .inl (List.mem_map.mpr ⟨_, hb.i3, rfl⟩)⟩
  · obtain ⟨rfl, p1, p2, p3⟩ := hPr
    exact h r h' tk' p1 (set_get hj) p2 p3 O' F' N'

theorem wcharT {w : World} {set sd pt ptd pr fd sto std tab al : Addr} {es : List DictEntry} {a b c d e f a1 : Tok} {n n1 n2 nl na : Nat} {its pv rv : Array Value} {bs : List PB} {j : Nat} {bk : PB} {cha chd : Addr} {code : Int} {g1 g2 : Tok} {n5 : Nat}
    {dp un : Nat} {gd : Option (List Code)} {env : Env} {outer : List Env} {A₀ : Around} {base h₀ : Heap} {L : Addr} {m : Str → Option Value} {mean : ExcName → Option Value} {mg mb : Str → Option Value} {s : Shared} {Q E : Value → Shared → Prop} {news l : Led} {FY : List Addr} {g : PR → Led}
    (B : Below A₀ base outer h₀) (F : Fr h₀ L s.heap m) (X : (KF w.params).In h₀) (N : News h₀ L s.heap news) (T₀ : Top q LZ mean mg mb h₀) (hf : env.frame = some L) (hk : env.scope.kind = .function) (hd : dp + 18 < recursionLimit) (hu : un + 8 * 18 < cLine)
    (m1 : (set, instObj 598 sd) ∈ news) (m2 : (sd, dictOf es n) ∈ news) (hset : getL (.ofString "ports") es = some (some (.ref pt))) (m3 : (pt, instObj 506 ptd) ∈ news) (m4 : (ptd, ptObj w pr fd (numOf j) a b c d e f n1) ∈ news) (m5 : (pr, W.listOf its nl) ∈ news) (m6 : (sto, instObj 967 std) ∈ news) (m7 : (std, stoObj w tab a1 n2) ∈ news) (m8 : (al, W.listOf #[.ref cha] na) ∈ news) (m9 : (cha, instObj 170 chd) ∈ news) (m10 : (chd, charObj w code g1 g2 n5) ∈ news)
    (hP : PortT w bs its pv rv l) (hj : bs[j]? = some bk) (hz : bk.ks.length ≤ 900) (hits : its.size ≤ 1000) (e8 : @Ne Nat al bk.ca) (e9 : @Ne Nat cha bk.ca) (e10 : @Ne Nat chd bk.ca)
    (ho : OwnOff l FY) (s4 : ∀ a ∈ [set, sd, pt, ptd, pr, sto, std], a ∈ FY) (hl : ∀ p ∈ l, p ∈ news) (hFY : ∀ b ∈ FY, ∃ o, (b, o) ∈ news) (R : RepF [bk.ca] l (fun r : PR => r.l) [] news g)
    (h : ∀ (r : PR) h' tk', PortT w (bs.set (j) r.b) its pv rv r.l → (bs.set (j) r.b)[j]? = some r.b → r.b.ks = bk.ks ++ [code] → r.b.rs = bk.rs → OwnOff r.l FY → Fr h₀ L h' m → News h₀ L h' (g r) → Q (.ref 47) { s with heap := h', toks := tk' }) :
    wpAny (model PG w) (top dp un gd env outer) (call (.ref 573) [.ref set, .ref sto, .ref al]) Q E s := by
  have hb := hP.row _ bk hj
  have hlen := hP.j_lt hj
  have hcl : bk.cs.toArray.size ≤ 1000 := by have := IntsAre.len hb.h1; simp [this]; omega
  have en : ∀ x ∈ [set, sd, pt, ptd, pr, sto, std], @Ne Nat x bk.ca := fun x hx => own_ne hb.i3 ho (s4 x hx)
  have hco : numOf j < 100000 := by have := numOf_le j; omega
  refine (wchar_cur (es := es) (its := its) (nl := nl) (co := numOf j) (ca := bk.ca) (cs := bk.cs.toArray) (nc := bk.nc) (n4 := bk.n4) (a := a) (b := b) (c := c) (d := d) (e := e) (f := f) (a1 := a1) (b1 := bk.b1) (b2 := bk.b2) (b3 := bk.b3) (n := n) (n1 := n1) (n2 := n2) (na := na) (pd := bk.pd) (fd := fd) (tab := tab) (g1 := g1) (g2 := g2) (n5 := n5) (code := code) hset (numOf_nonneg j) hco hb.pa hcl (en set (by simp)) (en sd (by simp)) (en pt (by simp)) (en ptd (by simp)) (en pr (by simp)) (en sto (by simp)) (en std (by simp)) e8 (inst_ne_list hP.nd hb.i1 hb.i3) (dict_ne_list hP.nd hb.i2 hb.i3) e9 e10).use (ρ := PR) (l := l) (fl := fun r => r.l) (S := []) (g := g) (FX := FY) (fun r v => v = .ref 47 ∧ PortT w (bs.set (j) r.b) its pv rv r.l ∧ r.b.ks = bk.ks ++ [code] ∧ r.b.rs = bk.rs) B F X N T₀ hf hk hd hu (fun p hp => ?_) hl R ho hFY (fun v new hPost => ?_) (fun r v h' tk' hPr F' N' O' => ?_)
  · simp only [List.mem_cons, List.not_mem_nil, or_false] at hp
    rcases hp with rfl | rfl | rfl | rfl | rfl | rfl | rfl | rfl | rfl | rfl | rfl | rfl | rfl
    all_goals first | assumption | exact hl _ (by assumption) | exact hl _ hb.i1 | exact hl _ hb.i2 | exact hl _ hb.i3
  · obtain ⟨rfl, t, nc', hm⟩ := hPost
    rw [List.push_toArray] at hm
    refine ⟨⟨setIn l bk.ca (W.listOf (bk.cs ++ [Value.int code t]).toArray nc'), _⟩, ⟨rfl, hP.put hj, rfl, rfl⟩, (fun e he => nomatch he), fun p hp => ?_⟩
    rcases of_setIn hp with ⟨q, hn⟩ | rfl
    · exact .inl ⟨q, by simpa using hn⟩
    · exact .inr ⟨hm, .inl (List.mem_map.mpr ⟨_, hb.i3, rfl⟩)⟩
  · obtain ⟨rfl, p1, p2, p3⟩ := hPr
    exact h r h' tk' p1 (set_get hj) p2 p3 O' F' N'

theorem wcharA {w : World} {set sd pt ptd pr fd sto std tab al : Addr} {es : List DictEntry} {a b c d e f a1 : Tok} {n n1 n2 nl na : Nat} {its pv rv : Array Value} {bs : List PB} {j : Nat} {bk : PB} {cha chd : Addr} {code : Int} {g1 g2 : Tok} {n5 : Nat} {co : Int}
    {dp un : Nat} {gd : Option (List Code)} {env : Env} {outer : List Env} {A₀ : Around} {base h₀ : Heap} {L : Addr} {m : Str → Option Value} {mean : ExcName → Option Value} {mg mb : Str → Option Value} {s : Shared} {Q E : Value → Shared → Prop} {news l : Led} {FY : List Addr} {g : PR → Led}
    (B : Below A₀ base outer h₀) (F : Fr h₀ L s.heap m) (X : (KF w.params).In h₀) (N : News h₀ L s.heap news) (T₀ : Top q LZ mean mg mb h₀) (hf : env.frame = some L) (hk : env.scope.kind = .function) (hd : dp + 18 < recursionLimit) (hu : un + 8 * 18 < cLine)
    (m1 : (set, instObj 598 sd) ∈ news) (m2 : (sd, dictOf es n) ∈ news) (hset : getL (.ofString "ports") es = some (some (.ref pt))) (m3 : (pt, instObj 506 ptd) ∈ news) (m4 : (ptd, ptObj w pr fd co a b c d e f n1) ∈ news) (m5 : (pr, W.listOf its nl) ∈ news) (m6 : (sto, instObj 967 std) ∈ news) (m7 : (std, stoObj w tab a1 n2) ∈ news) (m8 : (al, W.listOf #[.ref cha, .ref bk.ra] na) ∈ news) (m9 : (cha, instObj 170 chd) ∈ news) (m10 : (chd, charObj w code g1 g2 n5) ∈ news)
    (hP : PortT w bs its pv rv l) (hj : bs[j + 1]? = some bk) (hz : bk.ks.length ≤ 900) (hits : its.size ≤ 1000) (e8 : @Ne Nat al bk.ca) (e9 : @Ne Nat cha bk.ca) (e10 : @Ne Nat chd bk.ca)
    (ho : OwnOff l FY) (s4 : ∀ a ∈ [set, sd, pt, ptd, pr, sto, std], a ∈ FY) (hl : ∀ p ∈ l, p ∈ news) (hFY : ∀ b ∈ FY, ∃ o, (b, o) ∈ news) (R : RepF [bk.ca] l (fun r : PR => r.l) [] news g)
    (h : ∀ (r : PR) h' tk', PortT w (bs.set (j + 1) r.b) its pv rv r.l → (bs.set (j + 1) r.b)[j + 1]? = some r.b → r.b.ks = bk.ks ++ [code] → r.b.rs = bk.rs → OwnOff r.l FY → Fr h₀ L h' m → News h₀ L h' (g r) → Q (.ref 47) { s with heap := h', toks := tk' }) :
    wpAny (model PG w) (top dp un gd env outer) (call (.ref 573) [.ref set, .ref sto, .ref al]) Q E s := by
  have hb := hP.row _ bk hj
  have hlen := hP.j_lt hj
  have hcl : bk.cs.toArray.size ≤ 1000 := by have := IntsAre.len hb.h1; simp [this]; omega
  have en : ∀ x ∈ [set, sd, pt, ptd, pr, sto, std], @Ne Nat x bk.ca := fun x hx => own_ne hb.i3 ho (s4 x hx)
  have hr := hP.ref j bk hj
  refine (wchar_arg (es := es) (its := its) (nl := nl) (co := co) (k := (j : Int) + 2) (ca := bk.ca) (cs := bk.cs.toArray) (nc := bk.nc) (n4 := bk.n4) (a := a) (b := b) (c := c) (d := d) (e := e) (f := f) (a1 := a1) (a2 := bk.a2) (a3 := bk.a3) (b1 := bk.b1) (b2 := bk.b2) (b3 := bk.b3) (n := n) (n1 := n1) (n2 := n2) (n3 := bk.n3) (na := na) (rd := bk.rd) (pd := bk.pd) (fd := fd) (tab := tab) (g1 := g1) (g2 := g2) (n5 := n5) (code := code) hset (by omega) (by omega) (hP.arg hj) hcl (en set (by simp)) (en sd (by simp)) (en pt (by simp)) (en ptd (by simp)) (en pr (by simp)) (en sto (by simp)) (en std (by simp)) e8 (inst_ne_list hP.nd hb.i1 hb.i3) (dict_ne_list hP.nd hb.i2 hb.i3) e9 e10 (inst_ne_list hP.nd hr.i1 hb.i3) (dict_ne_list hP.nd hr.i2 hb.i3)).use (ρ := PR) (l := l) (fl := fun r => r.l) (S := []) (g := g) (FX := FY) (fun r v => v = .ref 47 ∧ PortT w (bs.set (j + 1) r.b) its pv rv r.l ∧ r.b.ks = bk.ks ++ [code] ∧ r.b.rs = bk.rs) B F X N T₀ hf hk hd hu (fun p hp => ?_) hl R ho hFY (fun v new hPost => ?_) (fun r v h' tk' hPr F' N' O' => ?_)
  · simp only [List.mem_cons, List.not_mem_nil, or_false] at hp
    rcases hp with rfl | rfl | rfl | rfl | rfl | rfl | rfl | rfl | rfl | rfl | rfl | rfl | rfl | rfl | rfl
    all_goals first | assumption | exact hl _ (by assumption) | exact hl _ hb.i1 | exact hl _ hb.i2 | exact hl _ hb.i3 | exact hl _ hr.i1 | exact hl _ hr.i2
  · obtain ⟨rfl, t, nc', hm⟩ := hPost
    rw [List.push_toArray] at hm
    refine ⟨⟨setIn l bk.ca (W.listOf (bk.cs ++ [Value.int code t]).toArray nc'), _⟩, ⟨rfl, hP.put hj, rfl, rfl⟩, (fun e he => nomatch he), fun p hp => ?_⟩
    rcases of_setIn hp with ⟨q, hn⟩ | rfl
    · exact .inl ⟨q, by simpa using hn⟩
    · exact .inr ⟨hm, .inl (List.mem_map.mpr ⟨_, hb.i3, rfl⟩)⟩
  · obtain ⟨rfl, p1, p2, p3⟩ := hPr
    exact h r h' tk' p1 (set_get hj) p2 p3 O' F' N'

theorem setcurT {w : World} {set sd pt ptd pr fd sto std tab al : Addr} {es : List DictEntry} {a b c d e f a1 : Tok} {n n2 nl na : Nat} {its pv rv : Array Value} {bs : List PB} {j : Nat} {bk : PB} {co : Int}
    {dp un : Nat} {gd : Option (List Code)} {env : Env} {outer : List Env} {A₀ : Around} {base h₀ : Heap} {L : Addr} {m : Str → Option Value} {mean : ExcName → Option Value} {mg mb : Str → Option Value} {s : Shared} {Q E : Value → Shared → Prop} {news l : Led} {FY : List Addr} {g : Tok → Led}
    (B : Below A₀ base outer h₀) (F : Fr h₀ L s.heap m) (X : (KF w.params).In h₀) (N : News h₀ L s.heap news) (T₀ : Top q LZ mean mg mb h₀) (hf : env.frame = some L) (hk : env.scope.kind = .function) (hd : dp + 18 < recursionLimit) (hu : un + 8 * 18 < cLine)
    (m1 : (set, instObj 598 sd) ∈ news) (m2 : (sd, dictOf es n) ∈ news) (hset : getL (.ofString "ports") es = some (some (.ref pt))) (m3 : (pt, instObj 506 ptd) ∈ news) (m4 : (ptd, ptObj w pr fd co a b c d e f 4) ∈ news) (m5 : (pr, W.listOf its nl) ∈ news) (m6 : (sto, instObj 967 std) ∈ news) (m7 : (std, stoObj w tab a1 n2) ∈ news) (m8 : (al, W.listOf #[.ref bk.ra] na) ∈ news)
    (hP : PortT w bs its pv rv l) (hj : bs[j + 1]? = some bk) (hits : its.size ≤ 1000) (e0 : @Ne Nat set ptd) (e1 : @Ne Nat sd ptd) (e2 : @Ne Nat pt ptd) (e3 : @Ne Nat pr ptd) (e4 : @Ne Nat sto ptd) (e5 : @Ne Nat std ptd) (e8 : @Ne Nat al ptd)
    (ho : OwnOff l FY) (s4 : ptd ∈ FY) (hl : ∀ p ∈ l, p ∈ news) (R : RepF [ptd] [] (fun _ => []) [(ptd, fun r : Tok => ptObj w pr fd (numOf (j + 1)) a b c r e f 4)] news g)
    (h : ∀ (r : Tok) h' tk', Fr h₀ L h' m → News h₀ L h' (g r) → Q (.ref 47) { s with heap := h', toks := tk' }) :
    wpAny (model PG w) (top dp un gd env outer) (call (.ref 545) [.ref set, .ref sto, .ref al]) Q E s := by
  have hb := hP.row _ bk hj
  have hr := hP.ref j bk hj
  have hlen := hP.j_lt hj
  have en : ∀ x o, (x, o) ∈ l → @Ne Nat x ptd := fun x o hx => ho _ hx _ s4
  refine (setcur_spec (es := es) (its := its) (nl := nl) (co := co) (k := (j : Int) + 2) (a := a) (b := b) (c := c) (d := d) (e := e) (f := f) (a1 := a1) (a2 := bk.a2) (a3 := bk.a3) (b1 := bk.b1) (b2 := bk.b2) (b3 := bk.b3) (n := n) (n2 := n2) (n3 := bk.n3) (n4 := bk.n4) (na := na) (rd := bk.rd) (pd := bk.pd) (ca := bk.ca) (fd := fd) (tab := tab) hset (by omega) (by omega) (hP.arg hj) e0 e1 e2 e3 e4 e5 e8 (en _ _ hb.i1) (en _ _ hb.i2) (en _ _ hr.i1) (en _ _ hr.i2)).use (ρ := Tok) (l := []) (fl := fun _ => []) (S := [(ptd, fun r : Tok => ptObj w pr fd (numOf (j + 1)) a b c r e f 4)]) (g := g) (FX := []) (fun r v => v = .ref 47) B F X N T₀ hf hk hd hu (fun p hp => ?_) (fun _ hp => nomatch hp) R (fun _ hp => nomatch hp) (fun _ hp => nomatch hp) (fun v new hPost => ?_) (fun r v h' tk' hPr F' N' O' => ?_)
  · simp only [List.mem_cons, List.not_mem_nil, or_false] at hp
    rcases hp with rfl | rfl | rfl | rfl | rfl | rfl | rfl | rfl | rfl | rfl | rfl | rfl
    all_goals first | assumption | exact hl _ hb.i1 | exact hl _ hb.i2 | exact hl _ hr.i1 | exact hl _ hr.i2
  · obtain ⟨rfl, d', hm⟩ := hPost
    refine ⟨d', rfl, fun e he => ?_, fun _ hp => nomatch hp⟩
    rw [List.mem_singleton.mp he]
    show (ptd, ptObj w pr fd (numOf (j + 1)) a b c d' _ f 4) ∈ new
    rw [numOf_succ]; exact hm
  · subst hPr
    exact h r h' tk' F' N'

structure OR where
  ra : Addr
  rd : Addr
  pa : Addr
  pd : Addr
  ca : Addr
  a2 : Tok
  a3 : Tok
  b1 : Tok
  b2 : Tok
  b3 : Tok
  n3 : Nat
  n4 : Nat
  nc : Nat
  nl : Nat
theorem openT {w : World} {set sd pt ptd pr fd sto std tab al : Addr} {es : List DictEntry} {co : Int} {a b c d e f a1 : Tok} {n n1 n2 nl na : Nat} {its : Array Value}
    {dp un : Nat} {gd : Option (List Code)} {env : Env} {outer : List Env} {A₀ : Around} {base h₀ : Heap} {L : Addr} {m : Str → Option Value} {mean : ExcName → Option Value} {mg mb : Str → Option Value} {s : Shared} {Q E : Value → Shared → Prop} {news : Led} {g : OR → Led}
    (B : Below A₀ base outer h₀) (F : Fr h₀ L s.heap m) (X : (KF w.params).In h₀) (N : News h₀ L s.heap news) (T₀ : Top q LZ mean mg mb h₀) (hf : env.frame = some L) (hk : env.scope.kind = .function) (hd : dp + 18 < recursionLimit) (hu : un + 8 * 18 < cLine)
    (m1 : (set, instObj 598 sd) ∈ news) (m2 : (sd, dictOf es n) ∈ news) (hset : getL (.ofString "ports") es = some (some (.ref pt))) (m3 : (pt, instObj 506 ptd) ∈ news) (m4 : (ptd, ptObj w pr fd co a b c d e f n1) ∈ news) (m5 : (pr, W.listOf its nl) ∈ news) (m6 : (sto, instObj 967 std) ∈ news) (m7 : (std, stoObj w tab a1 n2) ∈ news) (m8 : (al, W.listOf #[] na) ∈ news)
    (hits : its.size < 1000) (e0 : @Ne Nat set pr) (e1 : @Ne Nat sd pr) (e2 : @Ne Nat pt pr) (e3 : @Ne Nat ptd pr) (e4 : @Ne Nat sto pr) (e5 : @Ne Nat std pr) (e8 : @Ne Nat al pr)
    (R : RepF [pr] [] (fun _ => []) [(pr, fun r : OR => W.listOf (its.push (.ref r.pa)) r.nl)] news g)
    (h : ∀ (r : OR) h' tk', ((@LT.lt Nat _ r.ca r.pd) ∧ (@LT.lt Nat _ r.pd r.pa) ∧ (@LT.lt Nat _ r.pa r.rd) ∧ (@LT.lt Nat _ r.rd r.ra)) → (∀ p ∈ news, p.1 ≠ r.ra) → (∀ p ∈ news, p.1 ≠ r.rd) → (∀ p ∈ news, p.1 ≠ r.pa) → (∀ p ∈ news, p.1 ≠ r.pd) → (∀ p ∈ news, p.1 ≠ r.ca) → Fr h₀ L h' m → News h₀ L h' ((r.ra, instObj 212 r.rd) :: (r.rd, refObj w (its.size : Int) r.a2 r.a3 r.n3) :: (r.pa, instObj 422 r.pd) :: (r.pd, portObj w r.ca r.b1 r.b2 r.b3 r.n4) :: (r.ca, W.listOf #[] r.nc) ::  g r) → Q (.ref r.ra) { s with heap := h', toks := tk' }) :
    wpAny (model PG w) (top dp un gd env outer) (call (.ref 552) [.ref set, .ref sto, .ref al]) Q E s := by
  refine (openstr_spec2 (sd := sd) (ptd := ptd) (pr := pr) (std := std) (es := es) (its := its) (nl := nl) (co := co) (a := a) (b := b) (c := c) (d := d) (e := e) (f := f) (a1 := a1) (n := n) (n1 := n1) (n2 := n2) (na := na) (fd := fd) (tab := tab) hset hits e0 e1 e2 e3 e4 e5 e8) dp un gd env outer A₀ base h₀ L m mean mg mb s Q E B F X (fun p hp => N p ?_) T₀ hf hk hd hu (fun v new h' tk' hPost F' N' K' Y' => ?_)
  · simp only [List.mem_cons, List.not_mem_nil, or_false] at hp
    rcases hp with rfl | rfl | rfl | rfl | rfl | rfl | rfl | rfl
    all_goals assumption
  · obtain ⟨ra, rd, pa, pd, ca, b1, b2, b3, a2, a3, n3, n4, nc, nl', k, rfl, rfl, ⟨o1, o2, o3, o4, o5, o6, o7, o8, o9, o10, o11, o12⟩, rfl⟩ := hPost
    have off : ∀ x : Addr, @LE.le Nat _ ca x → ∀ o, (x, o) ∈ [(ra, instObj 212 rd), (rd, refObj w (its.size : Int) a2 a3 n3), (pa, instObj 422 pd), (pd, portObj w ca b1 b2 b3 n4), (ca, W.listOf #[] nc)] → ∀ q ∈ news, q.1 ≠ x := fun x hx o hm => by
      refine Fresh.apart Y' N (p := (x, o)) (List.mem_append_left (bs := [(set, instObj 598 sd), (sd, dictOf es n), (pt, instObj 506 ptd), (ptd, ptObj w pr fd co a b c d e f n1), (pr, W.listOf (its.push (.ref pa)) nl'), (sto, instObj 967 std), (std, stoObj w tab a1 n2), (al, W.listOf #[] na)]) hm) (fun hd => ?_)
      simp only [List.map_cons, List.map_nil, List.mem_cons, List.not_mem_nil, or_false] at hd
      have hx' : @LE.le Nat _ ca x := hx
      rcases hd with hd | hd | hd | hd | hd | hd | hd | hd
      all_goals (have hd' : @Eq Nat x _ := hd; omega)
    have w1 : @LE.le Nat _ ca ra := by omega
    have w2 : @LE.le Nat _ ca rd := by omega
    have w3 : @LE.le Nat _ ca pa := by omega
    have w4 : @LE.le Nat _ ca pd := by omega
    refine h ⟨ra, rd, pa, pd, ca, a2, a3, b1, b2, b3, n3, n4, nc, nl'⟩ h' tk' ⟨o1, o2, o3, o4⟩ (off ra w1 _ (.head _)) (off rd w2 _ (.tail _ (.head _))) (off pa w3 _ (.tail _ (.tail _ (.head _)))) (off pd w4 _ (.tail _ (.tail _ (.tail _ (.head _))))) (off ca (Nat.le_refl _) _ (.tail _ (.tail _ (.tail _ (.tail _ (.head _)))))) F' (fun p hp => ?_)
    rcases List.mem_cons.mp hp with rfl | hp
    · exact N' _ (.head _)
    rcases List.mem_cons.mp hp with rfl | hp
    · exact N' _ (.tail _ (.head _))
    rcases List.mem_cons.mp hp with rfl | hp
    · exact N' _ (.tail _ (.tail _ (.head _)))
    rcases List.mem_cons.mp hp with rfl | hp
    · exact N' _ (.tail _ (.tail _ (.tail _ (.head _))))
    rcases List.mem_cons.mp hp with rfl | hp
    · exact N' _ (.tail _ (.tail _ (.tail _ (.tail _ (.head _)))))
    refine R.news ⟨ra, rd, pa, pd, ca, a2, a3, b1, b2, b3, n3, n4, nc, nl'⟩ N K' (fun e he => ?_) (fun _ hp => nomatch hp) p hp
    intro q hq
    rw [List.mem_singleton] at he hq
    subst he hq
    exact N' _ (by simp)

theorem getstrT {w : World} {set sd pt ptd pr fd sto std tab al : Addr} {es : List DictEntry} {a b c d e f a1 : Tok} {n n1 n2 nl na : Nat} {its pv rv : Array Value} {bs : List PB} {j : Nat} {bk : PB} {co : Int}
    {dp un : Nat} {gd : Option (List Code)} {env : Env} {outer : List Env} {A₀ : Around} {base h₀ : Heap} {L : Addr} {m : Str → Option Value} {mean : ExcName → Option Value} {mg mb : Str → Option Value} {s : Shared} {Q E : Value → Shared → Prop} {news l : Led}
    (B : Below A₀ base outer h₀) (F : Fr h₀ L s.heap m) (X : (KF w.params).In h₀) (N : News h₀ L s.heap news) (T₀ : Top q LZ mean mg mb h₀) (hf : env.frame = some L) (hk : env.scope.kind = .function) (hd : dp + 18 < recursionLimit) (hu : un + 8 * 18 < cLine)
    (m1 : (set, instObj 598 sd) ∈ news) (m2 : (sd, dictOf es n) ∈ news) (hset : getL (.ofString "ports") es = some (some (.ref pt))) (m3 : (pt, instObj 506 ptd) ∈ news) (m4 : (ptd, ptObj w pr fd co a b c d e f n1) ∈ news) (m5 : (pr, W.listOf its nl) ∈ news) (m6 : (sto, instObj 967 std) ∈ news) (m7 : (std, stoObj w tab a1 n2) ∈ news) (m8 : (al, W.listOf #[.ref bk.ra] na) ∈ news)
    (hP : PortT w bs its pv rv l) (hj : bs[j + 1]? = some bk) (hits : its.size ≤ 1000) (hz : bk.ks.length ≤ 900) (hl : ∀ p ∈ l, p ∈ news)
    (h : ∀ tx td la q1 q2 n5 n6 h' tk', Fr h₀ L h' m → News h₀ L h' ((tx, instObj 191 td) :: (td, textObj w la q1 q2 n5) :: (la, W.listOf bk.cs.toArray n6) :: news) → Q (.ref tx) { s with heap := h', toks := tk' }) :
    wpAny (model PG w) (top dp un gd env outer) (call (.ref 559) [.ref set, .ref sto, .ref al]) Q E s := by
  have hb := hP.row _ bk hj
  have hr := hP.ref j bk hj
  have hlen := hP.j_lt hj
  refine (getstr_spec (ra := bk.ra) (sd := sd) (ptd := ptd) (pr := pr) (std := std) (es := es) (its := its) (nl := nl) (co := co) (k := (j : Int) + 2) (a := a) (b := b) (c := c) (d := d) (e := e) (f := f) (a1 := a1) (a2 := bk.a2) (a3 := bk.a3) (b1 := bk.b1) (b2 := bk.b2) (b3 := bk.b3) (n := n) (n1 := n1) (n2 := n2) (n3 := bk.n3) (n4 := bk.n4) (na := na) (rd := bk.rd) (pd := bk.pd) (ca := bk.ca) (cs := bk.cs) (nc := bk.nc) (fd := fd) (tab := tab) hset (by omega) (by omega) (hP.arg hj) hb.h1 (by omega)) dp un gd env outer A₀ base h₀ L m mean mg mb s Q E B F X (fun p hp => N p ?_) T₀ hf hk hd hu (fun v new h' tk' hPost F' N' K' Y' => ?_)
  · simp only [List.mem_cons, List.not_mem_nil, or_false] at hp
    rcases hp with rfl | rfl | rfl | rfl | rfl | rfl | rfl | rfl | rfl | rfl | rfl | rfl | rfl
    all_goals first | assumption | exact hl _ hb.i1 | exact hl _ hb.i2 | exact hl _ hb.i3 | exact hl _ hr.i1 | exact hl _ hr.i2
  · obtain ⟨tx, td, la, q1, q2, n5, n6, rfl, g1, g2, g3⟩ := hPost
    refine h tx td la q1 q2 n5 n6 h' tk' F' (fun p hp => ?_)
    rcases List.mem_cons.mp hp with rfl | hp
    · exact N' _ g1
    rcases List.mem_cons.mp hp with rfl | hp
    · exact N' _ g2
    rcases List.mem_cons.mp hp with rfl | hp
    · exact N' _ g3
    exact News.over N K' (fun _ _ h => nomatch h) p hp
theorem codesT {w : World} {sto std tab tx td la : Addr} {a1 a b : Tok} {n2 n nc : Nat} {cs : List Value} {ns : List Int}
    {dp un : Nat} {gd : Option (List Code)} {env : Env} {outer : List Env} {A₀ : Around} {base h₀ : Heap} {L : Addr} {m : Str → Option Value} {mean : ExcName → Option Value} {mg mb : Str → Option Value} {s : Shared} {Q E : Value → Shared → Prop} {news : Led}
    (B : Below A₀ base outer h₀) (F : Fr h₀ L s.heap m) (X : (KF w.params).In h₀) (N : News h₀ L s.heap news) (T₀ : Top q LZ mean mg mb h₀) (hf : env.frame = some L) (hk : env.scope.kind = .function) (hd : dp + 6 < recursionLimit) (hu : un + 8 * 6 < cLine)
    (m1 : (sto, instObj 967 std) ∈ news) (m2 : (std, stoObj w tab a1 n2) ∈ news) (m3 : (tx, instObj 191 td) ∈ news) (m4 : (td, textObj w la a b n) ∈ news) (m5 : (la, W.listOf cs.toArray nc) ∈ news) (hi : IntsAre cs ns) (hz : ns.length ≤ 900)
    (h : ∀ D ys n' h' tk', IntsAre ys ns → Fr h₀ L h' m → News h₀ L h' ((D, W.listOf ys.toArray n') :: news) → Q (.ref D) { s with heap := h', toks := tk' }) :
    wpAny (model PG w) (top dp un gd env outer) (call (.ref 310) [.ref sto, .ref tx]) Q E s := by
  refine (codes_spec (tab := tab) (a1 := a1) (a := a) (b := b) (n2 := n2) (n := n) (nc := nc) (td := td) (la := la) (std := std) hi (by omega)) dp un gd env outer A₀ base h₀ L m mean mg mb s Q E B F X (fun p hp => N p ?_) T₀ hf hk hd hu (fun v new h' tk' hPost F' N' K' Y' => ?_)
  · simp only [List.mem_cons, List.not_mem_nil, or_false] at hp
    rcases hp with rfl | rfl | rfl | rfl | rfl
    all_goals assumption
  · obtain ⟨D, ys, n', rfl, g1, g2⟩ := hPost
    refine h D ys n' h' tk' g2 F' (fun p hp => ?_)
    rcases List.mem_cons.mp hp with rfl | hp
    · exact N' _ g1
    exact News.over N K' (fun _ _ h => nomatch h) p hp
theorem takeT {w : World} {set sd tab ti op pt ptd pr fd : Addr} {f co : Int} {tf a b c d e f' : Tok} {z : SZ} {n1 nl : Nat} {its pv rv : Array Value} {bs : List PB} {bk : PB}
    {dp un : Nat} {gd : Option (List Code)} {env : Env} {outer : List Env} {A₀ : Around} {base h₀ : Heap} {L : Addr} {m : Str → Option Value} {mean : ExcName → Option Value} {mg mb : Str → Option Value} {s : Shared} {Q E : Value → Shared → Prop} {news l : Led}
    (B : Below A₀ base outer h₀) (F : Fr h₀ L s.heap m) (X : (KF w.params).In h₀) (N : News h₀ L s.heap news) (T₀ : Top q LZ mean mg mb h₀) (hf : env.frame = some L) (hk : env.scope.kind = .function) (hd : dp + 10 < recursionLimit) (hu : un + 8 * 10 < cLine)
    (m1 : (set, instObj 598 sd) ∈ news) (m2 : (sd, setObj w tab ti op pt f tf z) ∈ news) (m3 : (pt, instObj 506 ptd) ∈ news) (m4 : (ptd, ptObj w pr fd co a b c d e f' n1) ∈ news) (m5 : (pr, W.listOf its nl) ∈ news)
    (hP : PortT w bs its pv rv l) (hj : bs[0]? = some bk) (hz : bk.ks.length ≤ 900) (hb9 : ∀ n ∈ bk.ks, 0 ≤ n ∧ n ≤ 1000) (hl : ∀ p ∈ l, p ∈ news)
    (h : ∀ t' h' tk', Fr h₀ L h' m → News h₀ L h' news → Q (.str (textOf bk.ks) t') { s with heap := h', toks := tk' }) :
    wpAny (model PG w) (top dp un gd env outer) (call (.ref 595) [.ref set]) Q E s := by
  have hb := hP.row _ bk hj
  refine (take_spec (tab := tab) (ti := ti) (op := op) (f := f) (tf := tf) (z := z) (co := co) (a := a) (b := b) (c := c) (d := d) (e := e) (f' := f') (n1 := n1) (nl := nl) (n4 := bk.n4) (nc := bk.nc) (fd := fd) (pd := bk.pd) (b1 := bk.b1) (b2 := bk.b2) (b3 := bk.b3) (pa := bk.pa) (ca := bk.ca) (sd := sd) (ptd := ptd) (pr := pr) (pt := pt) (its := its) hb.h1 (by omega) hb9 hb.pa) dp un gd env outer A₀ base h₀ L m mean mg mb s Q E B F X (fun p hp => N p ?_) T₀ hf hk hd hu (fun v new h' tk' hPost F' N' K' Y' => ?_)
  · simp only [List.mem_cons, List.not_mem_nil, or_false] at hp
    rcases hp with rfl | rfl | rfl | rfl | rfl | rfl | rfl | rfl
    all_goals first | assumption | exact hl _ hb.i1 | exact hl _ hb.i2 | exact hl _ hb.i3
  · obtain ⟨t', rfl⟩ := hPost
    exact h t' h' tk' F' (News.over N K' fun _ _ h => nomatch h)

/-! ## the state between the deeds: names -/
noncomputable def TXT : Array Value := #[(.str (.ofString "a") 1444), (.str (.ofString "b") 1445), (.str (.ofString "a1") 1446), (.str (.ofString "car") 1447), (.str (.ofString "") 1448), (.str (.ofString "cdr") 1449)]
theorem txt_tuple {P : Params} {h : Heap} (X : (KF P).In h) : h.IsTuple 972 TXT := ⟨_, X 972 _ (by k_dflt k_is), rfl, _, rfl⟩
theorem txt_at {i : Nat} {v : Value} (h : TXT[i]? = some v) : ∃ x u, v = .str x u ∧ SIX[i]? = some x := by
  match i, h with
  | 0, h => cases h; exact ⟨_, _, rfl, rfl⟩
  | 1, h => cases h; exact ⟨_, _, rfl, rfl⟩
  | 2, h => cases h; exact ⟨_, _, rfl, rfl⟩
  | 3, h => cases h; exact ⟨_, _, rfl, rfl⟩
  | 4, h => cases h; exact ⟨_, _, rfl, rfl⟩
  | 5, h => cases h; exact ⟨_, _, rfl, rfl⟩
  | n + 6, h => cases h
theorem six_nodup : SIX.Nodup := by decide +kernel
section
variable {prog : Program} {w : World} {A : Around} {E : Value → Shared → Prop} {s : Shared} {h₀ : Heap} {L : Addr} {m : Str → Option Value}
theorem txt_item {P : Params} {value slice : PySem.Expr} {k : Int} {u : Tok} {Q : Value → Shared → Prop} (F : Fr h₀ L s.heap m) (X : (KF P).In h₀) (h0 : 0 ≤ k) (h1 : k < 6) (h : ∀ x t, x ∈ SIX → Q (.str x t) s)
    (hs : subscripted slice false (.ref 972) (.int k u) = operate [.ref 972, .int k u] (getItem (.ref 972) (.int k u)) := by with_unfolding_all rfl) :
    wpAny (model prog w) A (subscriptTail value slice (.ref 972) (.int k u)) Q E s := by
  have T := txt_tuple (X.keeps F.keep)
  have hi : k.toNat < TXT.size := by show k.toNat < 6; omega
  obtain ⟨x, t, e, hx⟩ := txt_at (show TXT[k.toNat]? = some TXT[k.toNat] by simp [hi])
  have T' : IsTup s.heap 972 TXT := T
  refine tail_any T.typeIs PySem.F.slot_tuple_getitem.lookup (PyProof.Rows.getItem_tuple (j := k.toNat) (x := TXT[k.toNat]) T' (by omega) (by omega) (seqIndex_of h0 (by show k < ((6 : Nat) : Int); omega)) (by simp [hi]) ?_) hs
  rw [e]
  exact h x t (List.mem_of_getElem? hx)
end
noncomputable def stKV (sy sti sop spl srl : Addr) (f : Int) (sf : Tok) (cur : Int) (tc : Tok) : List (Str × Value) := [(.ofString "symbols", .ref sy), (.ofString "fresh", .int f sf), (.ofString "titles", .ref sti), (.ofString "ops", .ref sop), (.ofString "ports", .ref spl), (.ofString "rows", .ref srl), (.ofString "current", .int cur tc)]
/-- the symbols that the state keeps -/
def SymsOk (T : List Str) (kv : List (Str × Value)) : Prop := ∀ p ∈ kv, ∃ (i : Nat) (t : Tok), T[i]? = some p.1 ∧ p.2 = .int (i : Int) t
theorem SymsOk.mono {T T' : List Str} {kv : List (Str × Value)} (h : SymsOk T kv) (hp : T <+: T') : SymsOk T' kv := fun p hq => by
  obtain ⟨i, t, h1, h2⟩ := h p hq
  obtain ⟨R, rfl⟩ := hp
  exact ⟨i, t, by rw [List.getElem?_append_left (List.getElem?_eq_some_iff.mp h1).1]; exact h1, h2⟩
theorem same_place {T : List Str} (hn : T.Nodup) {i j : Nat} {x : Str} (h1 : T[i]? = some x) (h2 : T[j]? = some x) : i = j := by
  obtain ⟨a, b⟩ := List.getElem?_eq_some_iff.mp h1
  obtain ⟨c, d⟩ := List.getElem?_eq_some_iff.mp h2
  exact (List.getElem_inj hn).mp (b.trans d.symm)
theorem SymsOk.get {T : List Str} {kv : List (Str × Value)} (h : SymsOk T kv) (hn : T.Nodup) {i : Nat} {x : Str} {t : Tok} (hi : T[i]? = some x) : ∃ t', (valueAt kv x).getD (.int (i : Int) t) = .int (i : Int) t' := by
  cases hv : valueAt kv x with
  | none => exact ⟨t, rfl⟩
  | some v =>
    obtain ⟨j, t', h1, h2⟩ := h _ (mem_of_valueAt hv)
    have := same_place hn hi h1
    subst this
    exact ⟨t', h2⟩
theorem SymsOk.set {T : List Str} {kv : List (Str × Value)} (h : SymsOk T kv) {i : Nat} {x : Str} {t : Tok} (hi : T[i]? = some x) : SymsOk T (sdef kv x (.int (i : Int) t)) := by
  unfold sdef
  split
  · exact h
  · intro p hp
    rcases List.mem_append.mp hp with hp | hp
    · exact h p hp
    · rw [List.mem_singleton.mp hp]; exact ⟨i, t, hi, rfl⟩
def TitlesOk (kv : List (Int × Value)) : Prop := ∀ p ∈ kv, ∃ x u, p.2 = Value.str x u ∧ x ∈ SIX
theorem TitlesOk.set {kv : List (Int × Value)} (h : TitlesOk kv) {i : Int} {x : Str} {u : Tok} (hx : x ∈ SIX) : TitlesOk (sdef kv i (.str x u)) := by
  unfold sdef
  split
  · exact h
  · intro p hp
    rcases List.mem_append.mp hp with hp | hp
    · exact h p hp
    · rw [List.mem_singleton.mp hp]; exact ⟨x, u, rfl, hx⟩
def SopOk (kv : List (Str × Value)) (pf : Str → Option Int) : Prop := ∀ x, IntAt (valueAt kv x) (pf x)
theorem SopOk.set {kv : List (Str × Value)} {pf : Str → Option Int} {ys : List Str} {x : Str} {t : Tok} (h : SopOk kv (after pf ys)) : SopOk (stored kv x (.int (ys.length : Int) t)) (after pf (ys ++ [x])) := fun y => by
  rw [valueAt_stored, after_snoc]
  by_cases e : y = x
  · subst e; simp [IntAt]
  · rw [if_neg e, if_neg (Ne.symm e)]; exact h y
structure NC where
  dk : Addr
  ce : Addr
  set : Addr
  sd : Addr
  tab : Addr
  dt : Addr
  rl : Addr
  bd : Addr
  ti : Addr
  op : Addr
  pt : Addr
  stt : Addr
  sy : Addr
  sti : Addr
  sop : Addr
  spl : Addr
  srl : Addr
  ws : List Value
  ns : List Int
  nc : Nat
  z : SZ
  ta : Tok
  tb : Tok
  n : Nat
  cur : Int
  tc : Tok
structure NS where
  k : Int
  kt : Tok
  kn : Nat
  f : Int
  tf : Tok
  sf : Tok
  T : List Str
  its : Array Value
  nl : Nat
  ob : Obj
  l : Led
  kvO : List (Int × Value)
  oo : Obj
  kvT : List (Int × Value)
  ot : Obj
  os : Obj
  kvS : List (Str × Value)
  oy : Obj
  kvP : List (Str × Value)
  oq : Obj
  ost : Obj
  pf : Str → Option Int
structure NCok (c : NC) : Prop where
  hi : IntsAre c.ws c.ns
  hlo : 1 ≤ c.ns.length
  hhi : c.ns.length ≤ 41
  hb : ∀ x ∈ c.ns, 0 ≤ x ∧ x ≤ 1000003
  c0 : @LT.lt Nat _ c.ce c.dk
  c1 : @LT.lt Nat _ c.dk c.sd
  c2 : @LT.lt Nat _ c.sd c.set
  c3 : @LT.lt Nat _ c.set c.dt
  c4 : @LT.lt Nat _ c.dt c.tab
  c5 : @LT.lt Nat _ c.tab c.rl
  c6 : @LT.lt Nat _ c.rl c.bd
  c7 : @LT.lt Nat _ c.bd c.ti
  c8 : @LT.lt Nat _ c.ti c.op
  c9 : @LT.lt Nat _ c.op c.stt
  c10 : @LT.lt Nat _ c.stt c.sy
  c11 : @LT.lt Nat _ c.sy c.sti
  c12 : @LT.lt Nat _ c.sti c.sop
  lo1 : (c.bd == sysModules) = false
  lo2 : (c.ti == sysModules) = false
  lo3 : (c.op == sysModules) = false
  lo4 : (c.stt == sysModules) = false
  lo5 : (c.sy == sysModules) = false
  lo6 : (c.sti == sysModules) = false
  lo7 : (c.sop == sysModules) = false
noncomputable def NS.heads (w : World) (c : NC) (σ : NS) : Led := [(c.dk, W.listOf #[.ref c.ce, .int σ.k σ.kt] σ.kn), (c.ce, W.listOf c.ws.toArray c.nc), (c.set, instObj 598 c.sd), (c.sd, setObj w c.tab c.ti c.op c.pt σ.f σ.tf c.z), (c.tab, instObj 128 c.dt), (c.dt, tabObj w c.rl c.bd c.ta c.tb c.n), (c.rl, W.listOf σ.its σ.nl), (c.bd, σ.ob), (c.ti, σ.ot), (c.op, σ.oo), (c.stt, σ.ost), (c.sy, σ.oy), (c.sti, σ.os), (c.sop, σ.oq)]
def NC.adrs (c : NC) : List Addr := [c.dk, c.ce, c.set, c.sd, c.tab, c.dt, c.rl, c.bd, c.ti, c.op, c.stt, c.sy, c.sti, c.sop]
def NC.muts (c : NC) : List Addr := [c.dk, c.sd, c.rl, c.bd, c.ti, c.op, c.stt, c.sy, c.sti, c.sop]
structure InvN (w : World) (c : NC) (M : Nat) (σ : NS) : Prop where
  sym : SymT w σ.T σ.its σ.ob σ.l
  off : OwnOff σ.l c.adrs
  dO : σ.oo.IsDictOf (IK w) σ.kvO
  ok : OpsOk σ.T σ.kvO σ.pf
  dT : σ.ot.IsDictOf (IK w) σ.kvT
  dT' : σ.os.IsDictOf (IK w) σ.kvT
  tok : TitlesOk σ.kvT
  dS : σ.oy.IsDictOf (SK w) σ.kvS
  sok : SymsOk σ.T σ.kvS
  dP : σ.oq.IsDictOf (SK w) σ.kvP
  pok : SopOk σ.kvP σ.pf
  dst : σ.ost.IsDictOf (SK w) (stKV c.sy c.sti c.sop c.spl c.srl σ.f σ.sf c.cur c.tc)
  k0 : 0 ≤ σ.k
  k1 : σ.k ≤ (M : Int)
  f0 : 0 ≤ σ.f
  f1 : σ.f ≤ (M : Int)
  zO : σ.kvO.length ≤ M
  zT : σ.kvT.length ≤ M
  zS : σ.kvS.length ≤ M
  zP : σ.kvP.length ≤ M

/-! ## calls by what is known -/
section
variable {w : World}
theorem SymT.place {T : List Str} {its : Array Value} {o : Obj} {l : Led} (h : SymT w T its o l) {i : Nat} {x : Str} (hi : T[i]? = some x) : i < 6 := by
  have := (List.getElem?_eq_some_iff.mp hi).1
  have := h.le
  omega
def titleAt (kv : List (Int × Value)) (i : Int) : Str := match valueAt kv i with
  | some (.str y _) => y
  | _ => .ofString ""
theorem titleAt_get {kv : List (Int × Value)} (h : TitlesOk kv) (i : Int) (t : Tok) : ∃ t', (valueAt kv i).getD (.str (.ofString "") t) = .str (titleAt kv i) t' := by
  unfold titleAt
  cases hv : valueAt kv i with
  | none => exact ⟨t, rfl⟩
  | some v =>
    obtain ⟨y, u, h2, _⟩ := h _ (mem_of_valueAt hv)
    have h2' : v = .str y u := h2
    subst h2'
    exact ⟨u, rfl⟩
theorem titleAt_six {kv : List (Int × Value)} (h : TitlesOk kv) (i : Int) : titleAt kv i ∈ SIX := by
  unfold titleAt
  cases hv : valueAt kv i with
  | none => simp [SIX]
  | some v =>
    obtain ⟨y, u, h2, h3⟩ := h _ (mem_of_valueAt hv)
    have h2' : v = .str y u := h2
    subst h2'
    exact h3
theorem six_ok : ∀ x ∈ SIX, PyData.strOk x = true := by decide +kernel
theorem intAt_get {v : Option Value} {i : Option Int} (h : IntAt v i) (d : Int) (t : Tok) : ∃ t', v.getD (.int d t) = .int (i.getD d) t' := by
  cases i with
  | none => rw [show v = none from h]; exact ⟨t, rfl⟩
  | some i => obtain ⟨t', rfl⟩ := h; exact ⟨t', rfl⟩
end
section
variable {prog : Program} {w : World} {A : Around} {E : Value → Shared → Prop} {s : Shared} {h₀ : Heap} {L d : Addr} {m : Str → Option Value} {news : Led} {o : Obj}
theorem dget_title {kvs : List (Int × Value)} {k : Int} {t u : Tok} {Q : Value → Shared → Prop} (N : News h₀ L s.heap news) (hp : (d, o) ∈ news) (hd : o.IsDictOf (intKind prog w) kvs) (lo : (d == sysModules) = false) (ht : TitlesOk kvs) (h : ∀ t', Q (.str (titleAt kvs k) t') { s with toks := s.toks + 1 }) :
    wpAny (model prog w) A (call (.builtin "dict.get") [.ref d, .int k t, .str (.ofString "") u]) Q E s :=
  kdg_get2 N hp hd lo (intKind_is _ _ _ _) _ rfl (by obtain ⟨t', e⟩ := titleAt_get ht k u; rw [e]; exact h t')
theorem dget_op {kvs : List (Str × Value)} {pf : Str → Option Int} {x : Str} {t u : Tok} {Q : Value → Shared → Prop} (N : News h₀ L s.heap news) (hp : (d, o) ∈ news) (hd : o.IsDictOf (PySem.strKind prog w) kvs) (lo : (d == sysModules) = false) (ht : SopOk kvs pf) (h : ∀ t', Q (.int ((pf x).getD (-1)) t') { s with toks := s.toks + 1 }) :
    wpAny (model prog w) A (call (.builtin "dict.get") [.ref d, .str x t, .int (-1) u]) Q E s :=
  kdg_get2 N hp hd lo (strKind_is _ _ _ _) _ rfl (by obtain ⟨t', e⟩ := intAt_get (ht x) (-1) u; rw [e]; exact h t')
theorem setdef_sym {kvs : List (Str × Value)} {T : List Str} {its : Array Value} {ob : Obj} {l : Led} {i : Nat} {x : Str} {t u : Tok} {g : Obj → Led} {Q : Value → Shared → Prop} (F : Fr h₀ L s.heap m) (N : News h₀ L s.heap news) (U : UpdF d o news g) (hd : o.IsDictOf (PySem.strKind prog w) kvs) (lo : (d == sysModules) = false) (hsz : kvs.length ≤ 1000)
    (hT : SymT w T its ob l) (ht : SymsOk T kvs) (hi : T[i]? = some x)
    (h : ∀ t' h' o', Fr h₀ L h' m → News h₀ L h' (g o') → o'.IsDictOf (PySem.strKind prog w) (sdef kvs x (.int (i : Int) u)) → SymsOk T (sdef kvs x (.int (i : Int) u)) → Q (.int (i : Int) t') { s with heap := h', toks := s.toks + 1 }) : wpAny (model prog w) A (call (.builtin "dict.setdefault") [.ref d, .str x t, .int (i : Int) u]) Q E s :=
  setdef_M F N U hd lo (strKind_is _ _ _ _) hsz fun h' o' F' N' hd' => by
    obtain ⟨t', e⟩ := ht.get hT.nd (t := u) hi
    rw [e]
    exact h t' h' o' F' N' hd' (ht.set hi)
end
theorem same_strs : ∀ ss : List Str, PySem.Spec.sameAll (ss.map PyData.str) (ss.map PyData.str) = true
  | [] => rfl
  | x :: r => by simp only [List.map_cons, PySem.Spec.sameAll, PySem.Spec.same, same_strs r]; simp
theorem canLay_strs : ∀ ss : List Str, (∀ x ∈ ss, x ∈ SIX) → PyData.canLayAll0 (ss.map PyData.str) = true
  | [], _ => rfl
  | x :: r, h => by simp only [List.map_cons, PyData.canLayAll0, PyData.canLay0, canLay_strs r fun y hy => h y (.tail _ hy)]; rw [six_ok x (h x (.head _))]; rfl
theorem depth_strs : ∀ ss : List Str, PyData.depthAll (ss.map PyData.str) = 0
  | [] => rfl
  | _ :: r => by simp only [List.map_cons, PyData.depthAll, PyData.depth, depth_strs r]; rfl
section
variable {prog : Program} {w : World} {A : Around} {E : Value → Shared → Prop} {s : Shared} {h₀ : Heap} {L : Addr} {m : Str → Option Value} {news : Led}
theorem shaped_strs (ss : List Str) (hs : ∀ x ∈ ss, x ∈ SIX) : SeqAt.shaped (.list (ss.map PyData.str)) = true := by
  simp [SeqAt.shaped, PyData.canLay0, PyData.depth, canLay_strs ss hs, depth_strs]
theorem eq_strs {a b : Addr} {xs ys : List Value} {ss : List Str} {Q : Value → Shared → Prop} (hs : ∀ x ∈ ss, x ∈ SIX) (ha : s.heap.IsList a xs.toArray) (hb : s.heap.IsList b ys.toArray) (hi : CarriedAll xs (ss.map PyData.str)) (hj : CarriedAll ys (ss.map PyData.str)) (hu : A.units + 64 < cLine) (h : Q (.bool true) s) :
    wpAny (model prog w) A (compareOp .Eq (.ref a) (.ref b)) Q E s :=
  eq_dataH_same (reads_newData ha hi) (reads_newData hb hj) (shaped_strs _ hs) (shaped_strs _ hs) hu (SeqAt.noMix_of_shape (.list .str) rfl _ _ (list_map_has fun _ => rfl) (list_map_has fun _ => rfl)) (by simp only [PySem.Spec.same]; rw [same_strs]; exact h)
theorem eq_ints {a b : Addr} {xs ys : List Value} {ns : List Int} {n n' : Nat} {Q : Value → Shared → Prop} (N : News h₀ L s.heap news) (ha : (a, W.listOf xs.toArray n) ∈ news) (hb : (b, W.listOf ys.toArray n') ∈ news) (hi : IntsAre xs ns) (hj : IntsAre ys ns) (hu : A.units + 64 < cLine) (h : Q (.bool true) s) :
    wpAny (model prog w) A (compareOp .Eq (.ref a) (.ref b)) Q E s := eq_intsK (isList_M N ha) hi (isList_M N hb) hj hu (by rw [decide_eq_true rfl]; exact h)
theorem ne_ints {a b : Addr} {xs ys : List Value} {ns : List Int} {n n' : Nat} {Q : Value → Shared → Prop} (N : News h₀ L s.heap news) (ha : (a, W.listOf xs.toArray n) ∈ news) (hb : (b, W.listOf ys.toArray n') ∈ news) (hi : IntsAre xs ns) (hj : IntsAre ys ns) (hu : A.units + 64 < cLine) (h : Q (.bool false) s) :
    wpAny (model prog w) A (compareOp .NotEq (.ref a) (.ref b)) Q E s := ne_intsK (isList_M N ha) hi (isList_M N hb) hj hu (by rw [decide_eq_true rfl]; exact h)
end

theorem textof2_use {w : World} {set sd tab dt rl bd : Addr} {es : List DictEntry} {ta tb t : Tok} {n n0 nl : Nat} {its : Array Value} {o : Obj} {T : List Str} {x : Str} {i : Nat}
    {dp un : Nat} {gd : Option (List Code)} {env : Env} {outer : List Env} {A₀ : Around} {base h₀ : Heap} {L : Addr} {m : Str → Option Value} {mean : ExcName → Option Value} {mg mb : Str → Option Value} {s : Shared} {Q E : Value → Shared → Prop} {news l : Led}
    (B : Below A₀ base outer h₀) (F : Fr h₀ L s.heap m) (X : (KF w.params).In h₀) (N : News h₀ L s.heap news) (T₀ : Top q LZ mean mg mb h₀) (hf : env.frame = some L) (hk : env.scope.kind = .function) (hd : dp + 8 < recursionLimit) (hu : un + 8 * 8 < cLine)
    (m1 : (set, instObj 598 sd) ∈ news) (m2 : (sd, dictOf es n0) ∈ news) (hset : getL (.ofString "table") es = some (some (.ref tab))) (m3 : (tab, instObj 128 dt) ∈ news) (m4 : (dt, tabObj w rl bd ta tb n) ∈ news) (m5 : (rl, W.listOf its nl) ∈ news) (hT : SymT w T its o l) (hi : T[i]? = some x) (hl : ∀ p ∈ l, p ∈ news)
    (h : ∀ t' h' tk', Fr h₀ L h' m → News h₀ L h' news → Q (.str x t') { s with heap := h', toks := tk' }) :
    wpAny (model PG w) (top dp un gd env outer) (call (.ref 258) [.ref set, .int (i : Int) t]) Q E s := by
  obtain ⟨a, d, q1, q2, q3, q4, q5, e1, e2, e3⟩ := hT.row i x hi
  have h6 := hT.place hi
  exact textof_use (a := a) (d := d) B F X N T₀ hf hk hd hu m1 m2 m3 m4 m5 (hl _ e2) (hl _ e3) hset (by omega) (by omega) (by simpa using e1) h

theorem nsym2_use {w : World} {set sd tab dt rl bd : Addr} {es : List DictEntry} {ta tb t : Tok} {n n0 nl : Nat} {its : Array Value} {o : Obj} {T : List Str} {x : Str} {i : Nat}
    {dp un : Nat} {gd : Option (List Code)} {env : Env} {outer : List Env} {A₀ : Around} {base h₀ : Heap} {L : Addr} {m : Str → Option Value} {mean : ExcName → Option Value} {mg mb : Str → Option Value} {s : Shared} {Q E : Value → Shared → Prop} {news l l0 : Led} {FY : List Addr} {g : SymR → Led}
    (B : Below A₀ base outer h₀) (F : Fr h₀ L s.heap m) (X : (KF w.params).In h₀) (N : News h₀ L s.heap news) (T₀ : Top q LZ mean mg mb h₀) (hf : env.frame = some L) (hk : env.scope.kind = .function) (hd : dp + 10 < recursionLimit) (hu : un + 8 * 10 < cLine)
    (m0 : (set, instObj 598 sd) ∈ news) (m00 : (sd, dictOf es n0) ∈ news) (hset : getL (.ofString "table") es = some (some (.ref tab))) (m1 : (tab, instObj 128 dt) ∈ news) (m2 : (dt, tabObj w rl bd ta tb n) ∈ news) (m3 : (rl, W.listOf its nl) ∈ news) (m4 : (bd, o) ∈ news) (hT : SymT w T its o l) (hx : x ∈ SIX) (lo : (bd == sysModules) = false)
    (ho : OwnOff l FY) (s4 : ∀ a ∈ [set, sd, tab, dt, rl, bd], a ∈ FY) (c1 : @LT.lt Nat _ sd set) (c2 : @LT.lt Nat _ set dt) (c3 : @LT.lt Nat _ dt tab) (c4 : @LT.lt Nat _ tab rl) (c5 : @LT.lt Nat _ rl bd)
    (hl : ∀ p ∈ l, p ∈ news) (hFY : ∀ b ∈ FY, ∃ o, (b, o) ∈ news) (h0 : ∀ p ∈ l0, p ∈ l) (hxi : T[i]? = some x) (R : RepF [rl, bd] l (fun r => r.l) (SymS rl bd) news g)
    (h : ∀ (r : SymR)  h' tk', (r.T[r.i]? = some x) → r.T[i]? = some x → (r.a, instObj 65 r.d) ∈ r.l → (r.d, symObj w (i : Nat) x r.q1 r.q2 r.q3 r.q4 r.q5) ∈ r.l → SymT w r.T r.its r.o r.l → T <+: r.T → (∀ p ∈ l0, p ∈ r.l) → OwnOff r.l FY → Fr h₀ L h' m → News h₀ L h' (g r) → Q (.ref r.a) { s with heap := h', toks := tk' }) :
    wpAny (model PG w) (top dp un gd env outer) (call (.ref 244) [.ref set, .str x t]) Q E s :=
  sym_use (fix := [(set, instObj 598 sd), (sd, dictOf es n0), (tab, instObj 128 dt), (dt, tabObj w rl bd ta tb n), (rl, W.listOf its nl), (bd, o)]) (FX := [set, sd, tab, dt, rl, bd]) (Pv := fun v r => v = .ref r.a ∧ SymG w x r)
    ((nsym_spec (t := t) hset hT hx lo (OwnOff.sub ho s4) c1 c2 c3 c4 c5).post (Nat.le_refl _) (fun _ h => h) (fun v new h => h))
    B F X N T₀ hf hk hd hu (by
      intro p hp
      simp only [List.mem_cons, List.not_mem_nil, or_false] at hp
      rcases hp with rfl | rfl | rfl | rfl | rfl | rfl <;> assumption) hl (by
      intro p hp
      simp only [List.mem_cons, List.not_mem_nil, or_false] at hp
      rcases hp with rfl | rfl | rfl | rfl | rfl | rfl <;> simp) R ho hFY h0 (fun r v h' tk' hP t pr sb of F' N' => by
      obtain ⟨rfl, hg⟩ := hP
      have e : r.T[i]? = some x := by
        obtain ⟨R', hR'⟩ := pr
        rw [← hR', List.getElem?_append_left (List.getElem?_eq_some_iff.mp hxi).1]; exact hxi
      have e' := same_place t.nd hg.at_ e
      have hdd := hg.dict
      rw [e'] at hdd
      exact h r h' tk' hg.at_ e hg.inst hdd t pr sb of F' N')

theorem title2_use {w : World} {set sd ti : Addr} {es : List DictEntry} {n0 : Nat} {o : Obj} {kvs : List (Int × Value)} {i : Int} {t : Tok}
    {dp un : Nat} {gd : Option (List Code)} {env : Env} {outer : List Env} {A₀ : Around} {base h₀ : Heap} {L : Addr} {m : Str → Option Value} {mean : ExcName → Option Value} {mg mb : Str → Option Value} {s : Shared} {Q E : Value → Shared → Prop} {news : Led}
    (B : Below A₀ base outer h₀) (F : Fr h₀ L s.heap m) (X : (KF w.params).In h₀) (N : News h₀ L s.heap news) (T : Top q LZ mean mg mb h₀) (hf : env.frame = some L) (hk : env.scope.kind = .function) (hd : dp + 4 < recursionLimit) (hu : un + 8 * 4 < cLine)
    (m1 : (set, instObj 598 sd) ∈ news) (m2 : (sd, dictOf es n0) ∈ news) (hset : getL (.ofString "titles") es = some (some (.ref ti))) (m3 : (ti, o) ∈ news) (hdo : o.IsDictOf (IK w) kvs) (lo : (ti == sysModules) = false) (ht : TitlesOk kvs)
    (h : ∀ t' h' tk', Fr h₀ L h' m → News h₀ L h' news → Q (.str (titleAt kvs i) t') { s with heap := h', toks := tk' }) :
    wpAny (model PG w) (top dp un gd env outer) (call (.ref 272) [.ref set, .int i t]) Q E s :=
  title_use B F X N T hf hk hd hu m1 m2 m3 hset hdo rfl lo fun t' h' tk' F' N' => by
    obtain ⟨t'', e⟩ := titleAt_get ht i t'
    rw [e]; exact h t'' h' tk' F' N'

theorem opat2_use {w : World} {set sd op : Addr} {es : List DictEntry} {n0 : Nat} {o ob : Obj} {kvs : List (Int × Value)} {pf : Str → Option Int} {T : List Str} {its : Array Value} {l : Led} {i : Nat} {x : Str} {t : Tok}
    {dp un : Nat} {gd : Option (List Code)} {env : Env} {outer : List Env} {A₀ : Around} {base h₀ : Heap} {L : Addr} {m : Str → Option Value} {mean : ExcName → Option Value} {mg mb : Str → Option Value} {s : Shared} {Q E : Value → Shared → Prop} {news : Led}
    (B : Below A₀ base outer h₀) (F : Fr h₀ L s.heap m) (X : (KF w.params).In h₀) (N : News h₀ L s.heap news) (T₀ : Top q LZ mean mg mb h₀) (hf : env.frame = some L) (hk : env.scope.kind = .function) (hd : dp + 4 < recursionLimit) (hu : un + 8 * 4 < cLine)
    (m1 : (set, instObj 598 sd) ∈ news) (m2 : (sd, dictOf es n0) ∈ news) (hset : getL (.ofString "ops") es = some (some (.ref op))) (m3 : (op, o) ∈ news) (hdo : o.IsDictOf (IK w) kvs) (lo : (op == sysModules) = false) (hT : SymT w T its ob l) (hok : OpsOk T kvs pf) (hi : T[i]? = some x)
    (h : ∀ t' h' tk', Fr h₀ L h' m → News h₀ L h' news → Q (.int ((pf x).getD (-1)) t') { s with heap := h', toks := tk' }) :
    wpAny (model PG w) (top dp un gd env outer) (call (.ref 286) [.ref set, .int (i : Int) t]) Q E s :=
  opat_use B F X N T₀ hf hk hd hu m1 m2 m3 hset hdo rfl lo fun t' h' tk' F' N' => by
    obtain ⟨t'', e⟩ := intAt_get (hok.at_ i x hi) (-1) t'
    rw [e]; exact h t'' h' tk' F' N'

theorem giveops_use {w : World} {set sd tab dt rl bd op rws ti pt : Addr} {f : Int} {tf : Tok} {z : SZ} {ta tb : Tok} {n nl nr : Nat} {its rv : Array Value} {o oo : Obj} {T : List Str} {xs : List Str} {kv : List (Int × Value)} {pf : Str → Option Int}
    {dp un : Nat} {gd : Option (List Code)} {env : Env} {outer : List Env} {A₀ : Around} {base h₀ : Heap} {L : Addr} {m : Str → Option Value} {mean : ExcName → Option Value} {mg mb : Str → Option Value} {s : Shared} {Q E : Value → Shared → Prop} {news l l0 : Led} {FY : List Addr} {g : (SymR × Obj) → Led}
    (B : Below A₀ base outer h₀) (F : Fr h₀ L s.heap m) (X : (KF w.params).In h₀) (N : News h₀ L s.heap news) (T₀ : Top q LZ mean mg mb h₀) (hf : env.frame = some L) (hk : env.scope.kind = .function) (hd : dp + 14 < recursionLimit) (hu : un + 8 * 14 < cLine)
    (m1 : (set, instObj 598 sd) ∈ news) (m2 : (sd, setObj w tab ti op pt f tf z) ∈ news) (m3 : (tab, instObj 128 dt) ∈ news) (m4 : (dt, tabObj w rl bd ta tb n) ∈ news) (m5 : (rl, W.listOf its nl) ∈ news) (m6 : (bd, o) ∈ news) (m7 : (op, oo) ∈ news) (m8 : (rws, W.listOf rv nr) ∈ news)
    (hS : SymT w T its o l) (hR : RowsAre xs rv l) (hx : ∀ x ∈ xs, x ∈ SIX) (hxl : xs.length ≤ 100) (hO : oo.IsDictOf (IK w) kv) (hok : OpsOk T kv pf) (hkz : kv.length ≤ 800) (lo : (bd == sysModules) = false)
    (ho : OwnOff l FY) (s4 : ∀ a ∈ [set, sd, tab, dt, rl, bd, op, rws], a ∈ FY) (c1 : @LT.lt Nat _ sd set) (c2 : @LT.lt Nat _ set dt) (c3 : @LT.lt Nat _ dt tab) (c4 : @LT.lt Nat _ tab rl) (c5 : @LT.lt Nat _ rl bd) (c6 : @LT.lt Nat _ bd op) (c7 : (@Ne Nat set rws) ∧ (@Ne Nat sd rws) ∧ (@Ne Nat tab rws) ∧ (@Ne Nat dt rws) ∧ (@Ne Nat rl rws) ∧ (@Ne Nat bd rws) ∧ (@Ne Nat op rws))
    (hl : ∀ p ∈ l, p ∈ news) (hFY : ∀ b ∈ FY, ∃ o, (b, o) ∈ news) (h0 : ∀ p ∈ l0, p ∈ l) (R : RepF [rl, bd, op] l (fun ρ => ρ.1.l) [(rl, fun ρ => W.listOf ρ.1.its ρ.1.nl), (bd, fun ρ => ρ.1.o), (op, fun ρ => ρ.2)] news g)
    (h : ∀ (ρ : SymR × Obj) (kv' : List (Int × Value)) h' tk', SymT w ρ.1.T ρ.1.its ρ.1.o ρ.1.l → T <+: ρ.1.T → (∀ p ∈ l0, p ∈ ρ.1.l) → OwnOff ρ.1.l FY → ρ.2.IsDictOf (IK w) kv' → OpsOk ρ.1.T kv' (after pf xs) → kv'.length ≤ kv.length + xs.length → Fr h₀ L h' m → News h₀ L h' (g ρ) → Q .none { s with heap := h', toks := tk' }) :
    wpAny (model PG w) (top dp un gd env outer) (call (.ref 279) [.ref set, .ref rws]) Q E s := by
  refine (giveops_spec (ti := ti) (pt := pt) (f := f) (tf := tf) (z := z) (ta := ta) (tb := tb) (n := n) (nl := nl) (nr := nr) hS hR hx hxl hO hok hkz lo (OwnOff.sub ho s4) c1 c2 c3 c4 c5 c6 c7).use (ρ := SymR × Obj)
    (fun ρ v => v = .none ∧ ∃ kv' : List (Int × Value), SymT w ρ.1.T ρ.1.its ρ.1.o ρ.1.l ∧ T <+: ρ.1.T ∧ (∀ p ∈ l0, p ∈ ρ.1.l) ∧ ρ.2.IsDictOf (IK w) kv' ∧ OpsOk ρ.1.T kv' (after pf xs) ∧ kv'.length ≤ kv.length + xs.length) B F X N T₀ hf hk hd hu (fun p hp => ?_) hl R ho hFY (fun v new hP => ?_) (fun ρ v h' tk' hP F' N' O' => ?_)
  · simp only [List.mem_cons] at hp
    rcases hp with rfl | rfl | rfl | rfl | rfl | rfl | rfl | rfl | hp
    all_goals first | assumption | exact hl p hp
  · obtain ⟨rfl, r, oo', kv', h2, h3, h4, h5, h6⟩ := hP
    refine ⟨(r, oo'), ⟨rfl, kv', h2.t, h2.pre, fun p hp => h2.sub p (h0 p hp), h4, h5, h6⟩, ?_, fun p hp => .inr ⟨h2.now p hp, ?_⟩⟩
    · intro e he
      simp only [List.mem_cons, List.not_mem_nil, or_false] at he
      rcases he with rfl | rfl | rfl
      · exact h2.rows
      · exact h2.texts
      · exact h3
    · by_cases hc : p.1 ∈ l.map (·.1)
      · exact .inl hc
      · refine .inr fun hd => ?_
        simp only [List.map_cons, List.mem_cons] at hd
        have ho' := h2.off p hp
        rcases hd with a | a | a | a | a | a | a | a | a
        · exact ho' set (by simp) a
        · exact ho' sd (by simp) a
        · exact ho' tab (by simp) a
        · exact ho' dt (by simp) a
        · exact ho' rl (by simp) a
        · exact ho' bd (by simp) a
        · exact ho' op (by simp) a
        · exact ho' rws (by simp) a
        · exact hc a
  · obtain ⟨rfl, kv', a1, a2, a3, a4, a5, a6⟩ := hP
    exact h ρ kv' h' tk' a1 a2 a3 O' a4 a5 a6 F' N'

theorem settitle2_use {w : World} {set sd ti : Addr} {es : List DictEntry} {n0 : Nat} {o : Obj} {kvs : List (Int × Value)} {i : Int} {x : Str} {t u : Tok}
    {dp un : Nat} {gd : Option (List Code)} {env : Env} {outer : List Env} {A₀ : Around} {base h₀ : Heap} {L : Addr} {m : Str → Option Value} {mean : ExcName → Option Value} {mg mb : Str → Option Value} {s : Shared} {Q E : Value → Shared → Prop} {news : Led} {g : Obj → Led}
    (B : Below A₀ base outer h₀) (F : Fr h₀ L s.heap m) (X : (KF w.params).In h₀) (N : News h₀ L s.heap news) (T : Top q LZ mean mg mb h₀) (hf : env.frame = some L) (hk : env.scope.kind = .function) (hd : dp + 4 < recursionLimit) (hu : un + 8 * 4 < cLine)
    (m1 : (set, instObj 598 sd) ∈ news) (m2 : (sd, dictOf es n0) ∈ news) (hset : getL (.ofString "titles") es = some (some (.ref ti))) (m3 : (ti, o) ∈ news) (hdo : o.IsDictOf (IK w) kvs) (lo : (ti == sysModules) = false) (hz : kvs.length ≤ 1000) (e1 : @Ne Nat set ti) (e2 : @Ne Nat sd ti) (ht : TitlesOk kvs) (hx : x ∈ SIX)
    (R : RepF [ti] [] (fun _ => []) [(ti, fun r => r)] news g)
    (h : ∀ (r : Obj) h' tk', r.IsDictOf (IK w) (sdef kvs i (.str x u)) → TitlesOk (sdef kvs i (.str x u)) → Fr h₀ L h' m → News h₀ L h' (g r) → Q .none { s with heap := h', toks := tk' }) :
    wpAny (model PG w) (top dp un gd env outer) (call (.ref 265) [.ref set, .int i t, .str x u]) Q E s :=
  settitle_use B F X N T hf hk hd hu m1 m2 m3 hset hdo lo hz e1 e2 R fun r h' tk' a F' N' => h r h' tk' a (ht.set hx) F' N'

section
variable {prog : Program} {w : World} {A : Around} {E : Value → Shared → Prop} {s : Shared} {h₀ : Heap} {L : Addr} {m : Str → Option Value} {env : Env}
theorem assign_listcomp_gen {elt iter : Expr} {x y : Str} {px py : Pos} {scope : Scope} {cl : List (Str × Addr)} {pos spos : Pos} {Q : Flow → Shared → Prop} (F₀ : Fr h₀ L s.heap m) (hLe : env.locals = L)
    (hsw : swapsWith (.ListComp elt [⟨.Name x px, iter, [], 0⟩] scope pos) (some (.Name y py)) spos.line env = pure true)
    (hclos : closureFor scope env = pure cl) (hcell : ∀ z ∈ scope.names, z.2 ≠ .cell) (hkind : scope.kind = .function)
    (hnames : ∀ z ∈ scope.names, z.2 = .local → scope.names.lookup z.1 = some .local) (hx : scope.names.lookup x = some .local)
    (hy : env.kindOf y = some .local) (hp : (env.scope.kind == .class || (env.scope.kind == .module && env.locals != env.globals)) = false)
    (h : wpAny (model prog w) A (eval iter env) (CompGen prog w A h₀ L m env elt x scope cl (fun s₂ => LCg.FinA h₀ L m s₂ y Q)) E s)
    (hs : ∀ x, foldedSetIterable iter env x = pure x := by intro _; rfl) :
    wpAny (model prog w) A (exec (.Assign [.Name y py] (.ListComp elt [⟨.Name x px, iter, [], 0⟩] scope pos) spos) env) Q E s := by
  subst hLe
  rw [exec_Assign_Name_used _ _ _ _ hsw]
  refine wpAny_bind (wpAny_standAt (wpAny_bind ?_))
  show wpAny _ A (do let _ ← comprehension (.ListComp elt [⟨.Name x px, iter, [], 0⟩] scope pos) scope env _ (newList []) false (eval iter env) (some (assign (.Name y py) env))) _ _ s
  refine wpAny_bind (wpAny_mono (wpAny_comprehension_free (use := some (assign (.Name y py) env)) (Q := fun _ s' => Q .next s') rfl hs hclos hkind hnames
    (wpAny_mono h (fun xv s₁ h₁ => ?_) fun _ _ e => e)) (fun _ s' hq => wpAny_pure (wpAny_pure hq)) fun _ _ e => e)
  obtain ⟨src, n, P, St, S, news, it, rfl, F, N, hsz, hS, hlt, hfr, hit, hW, hIo, hSt, hst, R⟩ := h₁
  refine hit _ _ ?_
  obtain ⟨fp, hfp, W⟩ := hW s₁.heap.objs.size (Nat.le_refl _)
  have up : ∀ b o, s₁.heap.get? b = some o → (s₁.heap.push it).get? b = some o := fun b o e => Heap.get?_push_of_some _ e
  refine LCg.block_U W hsz (hIo _) (hSt _) hcell hkind hx hst (fun b hb => ?_)
    (F.keeps up) (N.grown up) (Nat.ne_of_lt F.ns.lt) (next_is_new F) (fun p hp => Nat.ne_of_lt (Heap.lt_size (N p hp).1)) hS (R _ ⟨_, rfl⟩) ?_
  · show b < (s₁.heap.push _).objs.size
    rw [Heap.size_push]
    rcases hfp b hb with rfl | hb
    · exact Nat.lt_succ_self _
    · exact Nat.lt_succ_of_lt hb
  · intro D C h' tk m' ys news' F' N' o1 hn hC₀ hD₀ hCL hDL hCD offC fin
    show wpAny _ A (assign (.Name y py) env (.ref D)) _ _ _
    refine wpAny_assign_Name (wpAny_storeName_local hy F'.ns (fun h₂ hn₂ hs₂ => ?_) hp)
    have hL₀ : h₀.get? env.locals = none := Heap.get?_none_of_le F'.above
    have F₂ : Fr h₀ env.locals h₂ (fun z => if z = y then some (.ref D) else m z) := ⟨hn₂, fun b o e => hs₂.extBut b o (fun q => by rw [q, hL₀] at e; cases e) (F'.keep b o e), F'.above⟩
    refine ⟨m', hn.sameBut hs₂ hCL, fun h'' hs'' => fin D h'' _ (F₂.change hs'' hCL hC₀) (fun p hp => ?_) o1⟩
    have z : h₂.get? p.1 = some p.2 := hs₂.extBut _ _ (N' p hp).2.1 (N' p hp).1
    refine ⟨hs''.extBut _ _ ?_ z, (N' p hp).2⟩
    rcases List.mem_cons.mp hp with rfl | hp
    · exact Ne.symm hCD
    · exact offC p hp
end
def placeOf (v : Value) : Int := match v with
  | .int k _ => k
  | _ => 0
theorem places_nodup {T : List Str} {kv : List (Str × Value)} (h : SymsOk T kv) (hn : (kv.map (·.1)).Nodup) : (kv.map fun p => placeOf p.2).Nodup := by
  unfold List.Nodup at hn ⊢
  rw [List.pairwise_map] at hn ⊢
  refine List.Pairwise.imp_of_mem (fun {a b} ha hb hab e => ?_) hn
  obtain ⟨i, t, h1, h2⟩ := h a ha
  obtain ⟨j, u, h3, h4⟩ := h b hb
  rw [h2, h4] at e
  have e' : (i : Int) = (j : Int) := e
  have : i = j := by omega
  subst this
  rw [h1] at h3
  exact hab (Option.some.inj h3)
/-- pairs of a place and a nought, as far as i -/
def PairsAre (kv : List (Str × Value)) (i : Nat) (ys : List Value) (nx : Led) : Prop :=
  ∃ kvI : List (Int × Value), kvI.map (·.1) = (kv.take i).map (fun p => placeOf p.2) ∧ ys.length = i ∧ kvI.length = i ∧ ∀ (j : Nat) (p : Int × Value), kvI[j]? = some p → ∃ a t, ys[j]? = some (.ref a) ∧ (a, pairObj (.int p.1 t) p.2) ∈ nx
theorem PairsAre.zero {kv : List (Str × Value)} {nx : Led} : PairsAre kv 0 [] nx := ⟨[], rfl, rfl, rfl, fun j p h => nomatch h⟩
theorem PairsAre.succ {kv : List (Str × Value)} {i : Nat} {ys : List Value} {nx nx' : Led} {k : Int} {t : Tok} {x : Str} {a : Addr} {v : Value} (h : PairsAre kv i ys nx) (hs : ∀ p ∈ nx, p ∈ nx') (hk : kv[i]? = some (x, .int k t)) (ha : (a, pairObj (.int k t) v) ∈ nx') : PairsAre kv (i + 1) (ys ++ [.ref a]) nx' := by
  obtain ⟨kvI, h1, h2, h3, h4⟩ := h
  refine ⟨kvI ++ [(k, v)], ?_, by simp [h2], by simp [h3], fun j p hp => ?_⟩
  · rw [take_snoc hk, List.map_append, List.map_append, h1]; rfl
  · by_cases hj : j < kvI.length
    · rw [List.getElem?_append_left hj] at hp
      obtain ⟨b, u, e1, e2⟩ := h4 j p hp
      exact ⟨b, u, by rw [List.getElem?_append_left (by omega)]; exact e1, hs _ e2⟩
    · have := (List.getElem?_eq_some_iff.mp hp).1
      simp only [List.length_append, List.length_singleton] at this
      have e : j = kvI.length := by omega
      subst e
      simp only [List.getElem?_concat_length, Option.some.injEq] at hp
      subst hp
      exact ⟨a, t, by rw [h3, ← h2]; simp, ha⟩
theorem News.shrink {h₀ h : Heap} {L : Addr} {base nx : Led} {e e' : Addr × Obj} (N : News h₀ L h (e :: e' :: nx)) (hs : ∀ p ∈ base, p ∈ nx) : News h₀ L h (e :: base) := fun p hp => by
  rcases List.mem_cons.mp hp with rfl | hp
  · exact N _ (.head _)
  · exact N _ (.tail _ (.tail _ (hs p hp)))
section
variable {prog : Program} {w : World} {K : Type} [DecidableEq K] {knd : KeyKind prog w K} {o : Obj} {kv : List (K × Value)}
theorem sdef_len_of {k : K} {v : Value} (_ : o.IsDictOf knd (sdef kv k v)) : (sdef kv k v).length ≤ kv.length + 1 := sdef_len
abbrev kvOfD (_ : o.IsDictOf knd kv) : List (K × Value) := kv
end
abbrev kvOfT {kv : List (Int × Value)} (_ : TitlesOk kv) : List (Int × Value) := kv
theorem carried_at : ∀ {ys : List Value} {xs : List Str}, CarriedAll ys (xs.map PyData.str) → ∀ (i : Nat) (x : Str), xs[i]? = some x → ∃ t, ys[i]? = some (Value.str x t)
  | _, [], .nil, i, x, h => nomatch h
  | _, y :: r, .cons (.str _ t) q, 0, x, h => by cases h; exact ⟨t, rfl⟩
  | _, y :: r, .cons _ q, i + 1, x, h => carried_at q i x h
theorem carried_len : ∀ {ys : List Value} {ds : List PyData}, CarriedAll ys ds → ys.length = ds.length
  | _, _, .nil => rfl
  | _, _, .cons _ q => congrArg (· + 1) (carried_len q)
theorem RowsAre.succ {xs : List Str} {ys : List Value} {l l' : Led} {x : Str} {a : Addr} {t : Tok} {v1 v2 v3 : Value} (h : RowsAre xs ys.toArray l) (hs : ∀ p ∈ l, p ∈ l') (ha : (a, ({ cls := .type "tuple", data := .seq [Value.str x t, v1, v2, v3].toArray } : Obj)) ∈ l') : RowsAre (xs ++ [x]) (ys ++ [Value.ref a]).toArray l' := by
  obtain ⟨h1, h2⟩ := h
  have h1' : ys.length = xs.length := by simpa using h1
  refine ⟨by simp [h1'], fun i y hy => ?_⟩
  by_cases hi : i < xs.length
  · rw [List.getElem?_append_left hi] at hy
    obtain ⟨b, u, w1, w2, w3, e1, e2⟩ := h2 i y hy
    exact ⟨b, u, w1, w2, w3, by
      have e1' : ys[i]? = some (Value.ref b) := by simpa using e1
      simp only [List.getElem?_toArray]
      rw [List.getElem?_append_left (by omega)]; exact e1', hs _ e2⟩
  · have := (List.getElem?_eq_some_iff.mp hy).1
    simp only [List.length_append, List.length_singleton] at this
    have e : i = xs.length := by omega
    subst e
    simp only [List.getElem?_concat_length, Option.some.injEq] at hy
    subst hy
    exact ⟨a, t, v1, v2, v3, by simp [← h1'], ha⟩
theorem RowsAre.mono {xs : List Str} {rv : Array Value} {l l' : Led} (h : RowsAre xs rv l) (hs : ∀ p ∈ l, p ∈ l') : RowsAre xs rv l' :=
  ⟨h.1, fun i x hx => let ⟨a, t, v1, v2, v3, e1, e2⟩ := h.2 i x hx; ⟨a, t, v1, v2, v3, e1, hs _ e2⟩⟩
theorem OwnOff.push {l : Led} {FX : List Addr} {a : Addr} {o : Obj} (h : OwnOff l FX) (hn : ∀ b ∈ FX, a ≠ b) : OwnOff ((a, o) :: l) FX := fun p hp b hb => by
  rcases List.mem_cons.mp hp with rfl | hp
  · exact hn b hb
  · exact h p hp b hb
theorem OwnOff.cons3 {l : Led} {I C D : Addr} {FX : List Addr} (h : OwnOff l FX) (h3 : ∀ p ∈ l, p.1 ≠ I ∧ p.1 ≠ C ∧ p.1 ≠ D) : OwnOff l (I :: C :: D :: FX) :=
  OwnOff.cons (OwnOff.cons (OwnOff.cons h fun p hp => (h3 p hp).2.2) fun p hp => (h3 p hp).2.1) fun p hp => (h3 p hp).1
theorem OwnOff.drop {l : Led} {I : Addr} {FX : List Addr} (h : OwnOff l (I :: FX)) : OwnOff l FX := fun p hp b hb => h p hp b (.tail _ hb)
theorem OwnOff.drop3 {l : Led} {I C D : Addr} {FX : List Addr} (h : OwnOff l (I :: C :: D :: FX)) : OwnOff l FX := OwnOff.drop (OwnOff.drop (OwnOff.drop h))
theorem OwnOff.three {l : Led} {I C D : Addr} {FX : List Addr} (h : OwnOff l (I :: C :: D :: FX)) : ∀ p ∈ l, p.1 ≠ I ∧ p.1 ≠ C ∧ p.1 ≠ D :=
  fun p hp => ⟨h p hp I (.head _), h p hp C (.tail _ (.head _)), h p hp D (.tail _ (.tail _ (.head _)))⟩
theorem off3_more {I C D : Addr} {nx nx' : Led} {a : Addr} (h : LCg.Off3 I C D nx) (h3 : (@Ne Nat a I) ∧ (@Ne Nat a C) ∧ (@Ne Nat a D)) (hs : ∀ p ∈ nx', p ∈ nx ∨ p.1 = a) : LCg.Off3 I C D nx' := LCg.Off3.of fun p hp => by
  rcases hs p hp with hp | hp
  · exact h.mem p hp
  · rw [hp]; exact h3
theorem off1_more {I : Addr} {nx nx' : Led} (h : LCg.Off1 I nx) (hs : ∀ p ∈ nx', p.1 ∈ nx.map (·.1)) : LCg.Off1 I nx' := off1_of fun p hp => by
  obtain ⟨q, hq, e⟩ := List.mem_map.mp (hs p hp)
  rw [← e]; exact off1_mem h q hq
theorem mem_adr {a : Addr} {o : Obj} {nx : Led} (h : (a, o) ∈ nx) : a ∈ nx.map (·.1) := List.mem_map.mpr ⟨_, h, rfl⟩
theorem off3_adr {I C D : Addr} {nx nx' : Led} (h : LCg.Off3 I C D nx) (hs : ∀ p ∈ nx', p.1 ∈ nx.map (·.1) ∨ (p.1 ≠ I ∧ p.1 ≠ C ∧ p.1 ≠ D)) : LCg.Off3 I C D nx' := LCg.Off3.of fun p hp => by
  rcases hs p hp with hp | hp
  · obtain ⟨q, hq, e⟩ := List.mem_map.mp hp
    rw [← e]; exact h.mem q hq
  · exact hp
theorem off3_map {I C D : Addr} {hs hs' l l' : Led} (e : hs'.map (·.1) = hs.map (·.1)) (h : LCg.Off3 I C D (hs ++ l)) (ht : ∀ p ∈ l', p.1 ≠ I ∧ p.1 ≠ C ∧ p.1 ≠ D) : LCg.Off3 I C D (hs' ++ l') := LCg.Off3.of fun p hp => by
  rcases List.mem_append.mp hp with hp | hp
  · have : p.1 ∈ hs.map (·.1) := e ▸ List.mem_map.mpr ⟨p, hp, rfl⟩
    obtain ⟨q, hq, e'⟩ := List.mem_map.mp this
    rw [← e']; exact h.mem q (List.mem_append_left _ hq)
  · exact ht p hp
theorem off1_map {I : Addr} {hs hs' l l' : Led} (e : hs'.map (·.1) = hs.map (·.1)) (h : LCg.Off1 I (hs ++ l)) (ht : ∀ p ∈ l', p.1 ≠ I) : LCg.Off1 I (hs' ++ l') := off1_of fun p hp => by
  rcases List.mem_append.mp hp with hp | hp
  · have : p.1 ∈ hs.map (·.1) := e ▸ List.mem_map.mpr ⟨p, hp, rfl⟩
    obtain ⟨q, hq, e'⟩ := List.mem_map.mp this
    rw [← e']; exact off1_mem h q (List.mem_append_left _ hq)
  · exact ht p hp

section
local macro_rules | `(tactic| k_enter) => `(tactic| (refine' code_defCT ?k1 ?k2 ?k3 ?k4 ?k5 ?kA ?kF ?kK ?k6 ?k7 ?k8 ?k9 ?kB ?kD ?_ ?c2 ?c3 ?c4; (case kA => exact rfl); (case kF => first | exact rfl | assumption); (case kK => first | exact rfl | assumption); (case k1 => k_asm); (case k2 => k_asm); (case k3 => k_asm); (case k4 => k_asm); (case k5 => k_asm); (case k6 => k_is); (case k7 => k_is); (case k8 => k_room); (case k9 => exact BindsTo.of_eq rfl); (case kB => exact rfl); (case kD => decide +kernel); (case c2 => exact rfl); (case c3 => exact rfl); (case c4 => exact rfl); k_whole; intro g' L' h' tk' cells' FG' F' N' Y' B' X' T' l1 G' cf'; (try k_lt l1); k_cells Y'; (try simp only [List.cons_append, List.nil_append] at N'); (try dsimp only); (try k_lift B'); (try k_fold)))
local macro_rules | `(tactic| walk_at "CompSrc") => `(tactic| refine hold ?_)
local macro_rules | `(tactic| walk_at "CompEnd") => `(tactic| refine hold ?_)
local macro_rules | `(tactic| walk_at "CompGen") => `(tactic| refine hold ?_)

structure NXT where
  w : World
  M : Nat
  c : NC
  σ : NS
  a : SA
namespace NX
def P (x : NXT) : Prop := NCok x.c → InvN x.w x.c x.M x.σ → x.M ≤ 500 → SpecA x.w 24 989 [.ref x.c.dk, .ref x.c.set, .ref x.c.stt] (x.σ.heads x.w x.c ++ x.σ.l) x.c.muts (fun v new => v = .bool true ∧ ∃ σ' : NS, InvN x.w x.c (x.M + 10) σ' ∧ (∀ p ∈ x.σ.l, p ∈ σ'.l) ∧ ∀ p ∈ σ'.heads x.w x.c ++ σ'.l, p ∈ new) x.a
@[irreducible] noncomputable def X : NXT := @Classical.epsilon _ ⟨⟨⟨fun _ _ => 0, { strHash := fun _ => 0, shareClass := fun _ => 0, mergeTok := id, idOf := fun _ => 0, idOfShared := fun _ _ => 0, followText := fun _ => false, idOfImm := fun _ => 0 }⟩, 0, ⟨0, 0, 0, 0, 0, 0, 0, 0, 0, 0, 0, 0, 0, 0, 0, 0, 0, [], [], 0, ⟨0,0,0,0,0,0,0,0,0,0,0⟩, 0, 0, 0, 0, 0⟩, ⟨0, 0, 0, 0, 0, 0, [], #[], 0, (W.listOf #[] 0), [], [], (W.listOf #[] 0), [], (W.listOf #[] 0), (W.listOf #[] 0), [], (W.listOf #[] 0), [], (W.listOf #[] 0), (W.listOf #[] 0), (fun _ => none)⟩, junkA⟩⟩ fun x => ¬ P x
theorem all (h : P X) (x : NXT) : P x := Classical.byContradiction fun n => by
  unfold X at h
  exact absurd h (Classical.epsilon_spec (p := fun x => ¬ P x) ⟨x, n⟩)
@[irreducible] noncomputable def w : World := X.w
@[irreducible] noncomputable def M : Nat := X.M
@[irreducible] noncomputable def dk : Addr := X.c.dk
@[irreducible] noncomputable def ce : Addr := X.c.ce
@[irreducible] noncomputable def set : Addr := X.c.set
@[irreducible] noncomputable def sd : Addr := X.c.sd
@[irreducible] noncomputable def tab : Addr := X.c.tab
@[irreducible] noncomputable def dt : Addr := X.c.dt
@[irreducible] noncomputable def rl : Addr := X.c.rl
@[irreducible] noncomputable def bd : Addr := X.c.bd
@[irreducible] noncomputable def ti : Addr := X.c.ti
@[irreducible] noncomputable def op : Addr := X.c.op
@[irreducible] noncomputable def pt : Addr := X.c.pt
@[irreducible] noncomputable def stt : Addr := X.c.stt
@[irreducible] noncomputable def sy : Addr := X.c.sy
@[irreducible] noncomputable def sti : Addr := X.c.sti
@[irreducible] noncomputable def sop : Addr := X.c.sop
@[irreducible] noncomputable def spl : Addr := X.c.spl
@[irreducible] noncomputable def srl : Addr := X.c.srl
@[irreducible] noncomputable def ws : List Value := X.c.ws
@[irreducible] noncomputable def ns : List Int := X.c.ns
@[irreducible] noncomputable def nc : Nat := X.c.nc
@[irreducible] noncomputable def z : SZ := X.c.z
@[irreducible] noncomputable def ta : Tok := X.c.ta
@[irreducible] noncomputable def tb : Tok := X.c.tb
@[irreducible] noncomputable def n : Nat := X.c.n
@[irreducible] noncomputable def cur : Int := X.c.cur
@[irreducible] noncomputable def tc : Tok := X.c.tc
@[irreducible] noncomputable def k : Int := X.σ.k
@[irreducible] noncomputable def kt : Tok := X.σ.kt
@[irreducible] noncomputable def kn : Nat := X.σ.kn
@[irreducible] noncomputable def f : Int := X.σ.f
@[irreducible] noncomputable def tf : Tok := X.σ.tf
@[irreducible] noncomputable def sf : Tok := X.σ.sf
@[irreducible] noncomputable def T : List Str := X.σ.T
@[irreducible] noncomputable def its : Array Value := X.σ.its
@[irreducible] noncomputable def nl : Nat := X.σ.nl
@[irreducible] noncomputable def ob : Obj := X.σ.ob
@[irreducible] noncomputable def l : Led := X.σ.l
@[irreducible] noncomputable def kvO : List (Int × Value) := X.σ.kvO
@[irreducible] noncomputable def oo : Obj := X.σ.oo
@[irreducible] noncomputable def kvT : List (Int × Value) := X.σ.kvT
@[irreducible] noncomputable def ot : Obj := X.σ.ot
@[irreducible] noncomputable def os : Obj := X.σ.os
@[irreducible] noncomputable def kvS : List (Str × Value) := X.σ.kvS
@[irreducible] noncomputable def oy : Obj := X.σ.oy
@[irreducible] noncomputable def kvP : List (Str × Value) := X.σ.kvP
@[irreducible] noncomputable def oq : Obj := X.σ.oq
@[irreducible] noncomputable def ost : Obj := X.σ.ost
@[irreducible] noncomputable def pf : Str → Option Int := X.σ.pf
@[irreducible] noncomputable def dp : Nat := X.a.dp
@[irreducible] noncomputable def un : Nat := X.a.un
@[irreducible] noncomputable def gd : Option (List Code) := X.a.gd
@[irreducible] noncomputable def env : Env := X.a.env
@[irreducible] noncomputable def outer : List Env := X.a.outer
@[irreducible] noncomputable def A₀ : Around := X.a.A₀
@[irreducible] noncomputable def base : Heap := X.a.base
@[irreducible] noncomputable def h₀ : Heap := X.a.h₀
@[irreducible] noncomputable def L : Addr := X.a.L
@[irreducible] noncomputable def m : Str → Option Value := X.a.m
@[irreducible] noncomputable def mean : ExcName → Option Value := X.a.mean
@[irreducible] noncomputable def mg : Str → Option Value := X.a.mg
@[irreducible] noncomputable def mb : Str → Option Value := X.a.mb
@[irreducible] noncomputable def s : Shared := X.a.s
@[irreducible] noncomputable def Q : Value → Shared → Prop := X.a.Q
@[irreducible] noncomputable def E : Value → Shared → Prop := X.a.E
theorem eqX : (⟨w, M, ⟨dk, ce, set, sd, tab, dt, rl, bd, ti, op, pt, stt, sy, sti, sop, spl, srl, ws, ns, nc, z, ta, tb, n, cur, tc⟩, ⟨k, kt, kn, f, tf, sf, T, its, nl, ob, l, kvO, oo, kvT, ot, os, kvS, oy, kvP, oq, ost, pf⟩, ⟨dp, un, gd, env, outer, A₀, base, h₀, L, m, mean, mg, mb, s, Q, E⟩⟩ : NXT) = X := by
  delta w M dk ce set sd tab dt rl bd ti op pt stt sy sti sop spl srl ws ns nc z ta tb n cur tc k kt kn f tf sf T its nl ob l kvO oo kvT ot os kvS oy kvP oq ost pf dp un gd env outer A₀ base h₀ L m mean mg mb s Q E
  rfl
set_option maxHeartbeats 40000000 in
theorem core : P ⟨w, M, ⟨dk, ce, set, sd, tab, dt, rl, bd, ti, op, pt, stt, sy, sti, sop, spl, srl, ws, ns, nc, z, ta, tb, n, cur, tc⟩, ⟨k, kt, kn, f, tf, sf, T, its, nl, ob, l, kvO, oo, kvT, ot, os, kvS, oy, kvP, oq, ost, pf⟩, ⟨dp, un, gd, env, outer, A₀, base, h₀, L, m, mean, mg, mb, s, Q, E⟩⟩ := by
  unfold P SpecA
  intro hc hI hM hB hF hK hN hT hfr hkd hdd hu hret
  obtain ⟨hi, hlo, hhi, hb, c0, c1, c2, c3, c4, c5, c6, c7, c8, c9, c10, c11, c12, lo1, lo2, lo3, lo4, lo5, lo6, lo7⟩ := hc
  obtain ⟨sym, off, dO, ok, dT, dT', tok, dS, sok, dP, pok, dst, k0, k1, f0, f1, zO, zT, zS, zP⟩ := hI
  dsimp only [NS.heads, NC.muts, NC.adrs, List.cons_append, List.nil_append] at *
  w_on
  refine wpAny_call ?_
  k_dflt k_enter
  rename_i gF LF hF0 tkF FGF FF BF XF TF lF GF oc1 oc2 oc3 dc1 dc2 dc3 NF cfF
  have hlf : @LT.lt Nat _ sop (LF + 1) := Nat.lt_succ_of_lt (lF (sop, oq) (by k_memK))
  have hsd : SD [ce, dk, sd, set, dt, tab, rl, bd, ti, op, stt, sy, sti, sop, LF + 1, LF + 1 + 1, LF + 1 + 1 + 1] := SD.more c0 (SD.more c1 (SD.more c2 (SD.more c3 (SD.more c4 (SD.more c5 (SD.more c6 (SD.more c7 (SD.more c8 (SD.more c9 (SD.more c10 (SD.more c11 (SD.more c12 (SD.more hlf (SD.more (Nat.lt_succ_self _) (SD.more (Nat.lt_succ_self _) SD.one)))))))))))))))
  (repeat' ((fail_if_success (with_reducible show Hold _)); (fail_if_success (with_reducible show TurnEnd0 _ _ _ _ _ _ _ _ _ _)); first | (k_unfold; (try dsimp only)) | (k_end; first | kc_close | wrow_close) | ((with_reducible show wpAny _ _ (call _ _) _ _ _); (try dsimp only); first | ((with_reducible show wpAny _ _ (call (Value.ref 984) _) _ _ _); k_dflt (refine' draw_use ?kB ?kF ?kX ?kN ?kT ?kf ?kk ?kd ?ku ?zm1 ?zm2 ?zhi ?zhlo ?zhhi ?zhb ?zhk0 ?zhk1 ?zhm0 ?zhm1 ?zhne ?zR ?_; (case kB => k_asm); (case kF => k_asm); (case kX => k_asm); (case kN => k_asm); (case kT => k_asm); (case kf => first | exact rfl | assumption); (case kk => first | exact rfl | assumption); (case kd => k_room); (case ku => k_units); (case zm1 => k_mem); (case zm2 => k_mem); (case zhi => assumption); (case zhlo => assumption); (case zhhi => assumption); (case zhb => assumption); (case zhk0 => (first | assumption | omega)); (case zhk1 => (first | assumption | omega)); (case zhm0 => (first | assumption | omega | decide)); (case zhm1 => (first | assumption | omega | decide)); (case zhne => (first | assumption | omega)); (case zR => k_updF); k_whole); intro _ _ _ _ _ _ _ _ _; (try dsimp only); (try k_sweep)) | ((with_reducible show wpAny _ _ (call (Value.ref 237) _) _ _ _); k_dflt (refine' fresh_use ?kB ?kF ?kX ?kN ?kT ?kf ?kk ?kd ?ku ?zm1 ?zm2 ?zh0 ?zh1 ?zc1 ?zR ?_; (case kB => k_asm); (case kF => k_asm); (case kX => k_asm); (case kN => k_asm); (case kT => k_asm); (case kf => first | exact rfl | assumption); (case kk => first | exact rfl | assumption); (case kd => k_room); (case ku => k_units); (case zm1 => k_mem); (case zm2 => k_mem); (case zh0 => (first | assumption | omega)); (case zh1 => (first | assumption | omega)); (case zc1 => (first | assumption | omega)); (case zR => k_updF); k_whole); intro _ _ _ _ _ _; (try dsimp only); (try k_sweep)) | ((with_reducible show wpAny _ _ (call (Value.ref 265) _) _ _ _); k_dflt (refine' settitle2_use ?kB ?kF ?kX ?kN ?kT ?kf ?kk ?kd ?ku ?zm1 ?zm2 ?zset ?zm3 ?zdo ?zlo ?zz ?ze1 ?ze2 ?zt ?zx ?zR ?_; (case kB => k_asm); (case kF => k_asm); (case kX => k_asm); (case kN => k_asm); (case kT => k_asm); (case kf => first | exact rfl | assumption); (case kk => first | exact rfl | assumption); (case kd => k_room); (case ku => k_units); (case zm1 => k_mem); (case zm2 => k_mem); (case zset => k_get); (case zm3 => k_mem); (case zdo => assumption); (case zlo => assumption); (case zz => omega); (case ze1 => omega); (case ze2 => omega); (case zt => assumption); (case zx => assumption); (case zR => k_updF); k_whole); intro _ _ _ _ _ _ _; (try dsimp only); (try k_sweep)) | ((with_reducible show wpAny _ _ (call (Value.ref 258) _) _ _ _); k_dflt (refine' textof2_use ?kB ?kF ?kX ?kN ?kT ?kf ?kk ?kd ?ku ?zm1 ?zm2 ?zset ?zm3 ?zm4 ?zm5 ?zT ?zi ?zl ?_; (case kB => k_asm); (case kF => k_asm); (case kX => k_asm); (case kN => k_asm); (case kT => k_asm); (case kf => first | exact rfl | assumption); (case kk => first | exact rfl | assumption); (case kd => k_room); (case ku => k_units); (case zm1 => k_mem); (case zm2 => k_mem); (case zset => k_get); (case zm3 => k_mem); (case zm4 => k_mem); (case zm5 => k_mem); (case zT => assumption); (case zi => assumption); (case zl => (intro p' hp'; (repeat (with_reducible apply kfs5)); (repeat (refine List.Mem.tail _ ?_)); exact hp')); k_whole); intro _ _ _ _ _; (try dsimp only); (try k_sweep)) | ((with_reducible show wpAny _ _ (call (Value.ref 251) _) _ _ _); k_dflt (refine' num_use ?kB ?kF ?kX ?kN ?kT ?kf ?kk ?kd ?ku ?zm0 ?zm00 ?zset ?zm1 ?zm2 ?zm3 ?zm4 ?zT ?zx ?zlo ?zo ?zs4 ?zc1 ?zc2 ?zc3 ?zc4 ?zc5 ?zl ?zFY ?zh0 ?zR ?_; (case kB => k_asm); (case kF => k_asm); (case kX => k_asm); (case kN => k_asm); (case kT => k_asm); (case kf => first | exact rfl | assumption); (case kk => first | exact rfl | assumption); (case kd => k_room); (case ku => k_units); (case zm0 => k_mem); (case zm00 => k_mem); (case zset => k_get); (case zm1 => k_mem); (case zm2 => k_mem); (case zm3 => k_mem); (case zm4 => k_mem); (case zT => assumption); (case zx => (first | assumption | decide)); (case zlo => assumption); (case zo => assumption); (case zs4 => (repeat' (first | exact List.forall_mem_nil _ | (refine fac (by k_memK) ?_)))); (case zc1 => (first | assumption | omega)); (case zc2 => (first | assumption | omega)); (case zc3 => (first | assumption | omega)); (case zc4 => (first | assumption | omega)); (case zc5 => (first | assumption | omega)); (case zl => (intro p' hp'; (repeat (with_reducible apply kfs5)); (repeat (refine List.Mem.tail _ ?_)); exact hp')); (case zFY => (repeat' (first | exact List.forall_mem_nil _ | (refine List.forall_mem_cons.mpr ⟨⟨_, by k_mem⟩, ?_⟩)))); (case zh0 => (first | assumption | exact fun _ h => h)); (case zR => k_updF); k_whole); intro _ _ _ _ _ _ _ _ _ _ _; (try dsimp only); (try k_sweep)) | ((with_reducible show wpAny _ _ (call (Value.ref 244) _) _ _ _); k_dflt (refine' nsym2_use ?kB ?kF ?kX ?kN ?kT ?kf ?kk ?kd ?ku ?zm0 ?zm00 ?zset ?zm1 ?zm2 ?zm3 ?zm4 ?zT ?zx ?zlo ?zo ?zs4 ?zc1 ?zc2 ?zc3 ?zc4 ?zc5 ?zl ?zFY ?zh0 ?zxi ?zR ?_; (case kB => k_asm); (case kF => k_asm); (case kX => k_asm); (case kN => k_asm); (case kT => k_asm); (case kf => first | exact rfl | assumption); (case kk => first | exact rfl | assumption); (case kd => k_room); (case ku => k_units); (case zm0 => k_mem); (case zm00 => k_mem); (case zset => k_get); (case zm1 => k_mem); (case zm2 => k_mem); (case zm3 => k_mem); (case zm4 => k_mem); (case zT => assumption); (case zx => (first | assumption | decide)); (case zlo => assumption); (case zo => assumption); (case zs4 => (repeat' (first | exact List.forall_mem_nil _ | (refine fac (by k_memK) ?_)))); (case zc1 => (first | assumption | omega)); (case zc2 => (first | assumption | omega)); (case zc3 => (first | assumption | omega)); (case zc4 => (first | assumption | omega)); (case zc5 => (first | assumption | omega)); (case zl => (intro p' hp'; (repeat (with_reducible apply kfs5)); (repeat (refine List.Mem.tail _ ?_)); exact hp')); (case zFY => (repeat' (first | exact List.forall_mem_nil _ | (refine List.forall_mem_cons.mpr ⟨⟨_, by k_mem⟩, ?_⟩)))); (case zh0 => (first | assumption | exact fun _ h => h)); (case zxi => assumption); (case zR => k_updF); k_whole); intro _ _ _ _ _ _ _ _ _ _ _ _ _; (try dsimp only); (try k_sweep)) | ((try dsimp only [List.nil_append, List.cons_append]); (with_reducible show wpAny _ _ (call (Value.builtin "dict.setdefault") [Value.ref _, Value.str _ _, _]) _ _ _); k_dflt (refine' setdef_sym ?k1 ?k2 ?k3 ?k4 ?k5 ?k6 ?k7 ?k8 ?k9 ?_; (case k1 => k_asm); (case k2 => k_asm); (case k3 => k_updF); (case k4 => k_asm); (case k5 => assumption); (case k6 => omega); (case k7 => assumption); (case k8 => first | assumption | exact SymsOk.mono (by assumption) (by assumption)); (case k9 => assumption); k_whole); walk_at "kq2"; (try k_sweep)) | ((try dsimp only [List.nil_append, List.cons_append]); (with_reducible show wpAny _ _ (call (Value.builtin "dict.setdefault") [Value.ref _, Value.int _ _, _]) _ _ _); k_dflt (refine' setdef_M (knd := intKind _ _) ?k1 ?k2 ?k3 ?k4 ?k5 (intKind_is _ _ _ _) ?k6 ?_; (case k1 => k_asm); (case k2 => k_asm); (case k3 => k_updF); (case k4 => k_asm); (case k5 => assumption); (case k6 => omega); k_whole); walk_at "kq3"; (try k_sweep))) | ((with_reducible show wpAny _ _ (subscriptTail _ _ _ _) _ _ _); (try dsimp only); first | ((with_reducible show wpAny _ _ (subscriptTail _ _ (Value.ref 972) (Value.int _ _)) _ _ _); k_dflt (refine' txt_item ?k1 ?k2 ?k4 ?k5 ?_ ?k6; (case k1 => k_asm); (case k2 => k_asm); (case k4 => first | assumption | omega); (case k5 => first | assumption | omega); (case k6 => with_unfolding_all rfl); k_whole); intro _ _ _)) | ((with_reducible show wpAny _ _ (newTuple _) _ _ _); (try dsimp only); first | ((with_reducible show wpAny _ _ (newTuple _) _ _ _); (k_dflt (refine' kup_newTuple ?F ?N ?_ ?z; (case F => k_asm); (case N => k_asm); (case z => exact small_line (Nat.le_of_ble_eq_true rfl))); walk_at "kq1"; (try k_sweep)))) | ((with_reducible show wpAny _ _ (eval (Expr.ListComp _ [Comprehension.mk _ (Expr.Call (Expr.Attribute _ (Str.ofString "values") _) _ _ _) _ _] _ _) _) _ _ _); k_dflt (refine listcomp_gen (F₀ := by k_asm) (by with_unfolding_all rfl) (by decide) (by rfl) (by decide) (by rfl) ?_)) | ((with_reducible show wpAny _ _ (eval (PySem.Expr.Name _ _) (envOf _ _ _ _ _)) _ _ _); first | k_dflt (refine' ld ?k1 ?k2 ?_; (case k1 => k_asm); (case k2 => exact rfl); k_whole) | (with_unfolding_all refine guard_global (by rfl) ?_; k_dflt (refine' name_K ?kF ?k1 ?k2 ?k3 ?_; (case kF => k_asm); (case k1 => k_asm); (case k2 => k_asm); (case k3 => k_is); k_whole))) | walk1 | (dsimp only; walk1) | (leave1; try dsimp only)))
  all_goals try (exfalso; first | exact absurd rfl (by assumption) | (rename (_ != _) = true => hx9; simp at hx9; done))
  · unfold Hold
    rename Fr _ _ _ _ => F1
    rename News _ _ _ _ => N1
    rename SymsOk _ (sdef _ _ _) => sk1
    rename Obj.IsDictOf _ _ (sdef _ _ _) => d1
    have z1 := sdef_len_of d1
    have nd1 := places_nodup sk1 (IsDictOf.nodup d1)
    refine CompGen.values rfl F1 N1 (by k_mem) (by k_mem) d1 (by omega) ?_
    intro g0
    refine comp_grow (fun i ys nx => PairsAre (kvOfD d1) i ys nx) PairsAre.zero ?step ?fin
    case step =>
      rintro i ys nx v I oI C oC D m₂ h tk E' hlt hs hJ ⟨kk, hkk⟩ hC hx F' N' off ne
      obtain ⟨j, t9, h9, h10⟩ := sk1 _ (List.mem_of_getElem? hkk)
      have h10' : v = .int (j : Int) t9 := h10
      subst h10'
      have off0 := off
      dsimp only
      (repeat' ((fail_if_success (with_reducible show Hold _)); (fail_if_success (with_reducible show TurnEnd0 _ _ _ _ _ _ _ _ _ _)); first | (k_unfold; (try dsimp only)) | (k_end; first | kc_close | wrow_close) | ((with_reducible show wpAny _ _ (newTuple _) _ _ _); (try dsimp only); first | ((with_reducible show wpAny _ _ (newTuple _) _ _ _); (k_dflt (refine' kup_newTuple ?F ?N ?_ ?z; (case F => k_asm); (case N => k_asm); (case z => exact small_line (Nat.le_of_ble_eq_true rfl))); walk_at "kq1"; (try k_sweep)))) | ((with_reducible show wpAny _ _ (eval (PySem.Expr.Name _ _) (envOf _ _ _ _ _)) _ _ _); first | k_dflt (refine' ld ?k1 ?k2 ?_; (case k1 => k_asm); (case k2 => exact rfl); k_whole) | (with_unfolding_all refine guard_global (by rfl) ?_; k_dflt (refine' name_K ?kF ?k1 ?k2 ?k3 ?_; (case kF => k_asm); (case k1 => k_asm); (case k2 => k_asm); (case k3 => k_is); k_whole))) | walk1 | (dsimp only; walk1) | (leave1; try dsimp only)))
      unfold Hold
      rename Fr _ _ _ _ => F3
      rename News _ _ _ _ => N3
      refine' LCg.CompEnd.intro F3 N3 (_ :: nx) ?sub ⟨⟨?o1, ?o2, ?o3⟩, off0⟩ (.tail _ (hs _ ?mm)) ⟨fun p hp => .tail _ (hs p hp), PairsAre.succ hJ (fun p hp => .tail _ hp) hkk (.head _)⟩
      case mm => k_mem
      case sub =>
        repeat' (first | (with_reducible refine fac ?_ ?_) | tb_rel | ((with_reducible show _ ∈ _); k_mem) | (intro p' hp'; (repeat (with_reducible apply kfs5)); (repeat (refine List.Mem.tail _ ?_)); exact hp'))
      all_goals k_ne
    case fin =>
      rintro ys nx hs hJ
      (repeat' ((fail_if_success (with_reducible show Hold _)); (fail_if_success (with_reducible show TurnEnd0 _ _ _ _ _ _ _ _ _ _)); first | (k_unfold; (try dsimp only)) | (k_end; first | kc_close | wrow_close) | ((with_reducible show wpAny _ _ (call _ _) _ _ _); (try dsimp only); first | ((with_reducible show wpAny _ _ (call (Value.type "dict") _) _ _ _); ((try dsimp only [List.nil_append, List.cons_append]); refine hold ?_))) | ((with_reducible show wpAny _ _ (eval (PySem.Expr.Name _ _) (envOf _ _ _ _ _)) _ _ _); first | k_dflt (refine' ld ?k1 ?k2 ?_; (case k1 => k_asm); (case k2 => exact rfl); k_whole) | (with_unfolding_all refine guard_global (by rfl) ?_; k_dflt (refine' name_K ?kF ?k1 ?k2 ?k3 ?_; (case kF => k_asm); (case k1 => k_asm); (case k2 => k_asm); (case k3 => k_is); k_whole))) | walk1 | (dsimp only; walk1) | (leave1; try dsimp only)))
      unfold Hold
      rename Fr _ _ _ _ => F3
      rename News _ _ _ _ => N3
      obtain ⟨kvI, e1, e2, e3, e4⟩ := hJ
      rw [List.take_length] at e1
      refine dict_pairs rfl (Top.nolimit (by assumption)) F3 N3 (.head _) (kvs := kvI) (by omega) (by rw [e1]; exact nd1) (by simp; omega) (fun i kv hi => ?_) ?_
      · obtain ⟨a, t, h1, h2⟩ := e4 i kv hi
        exact ⟨a, t, by simpa using h1, .tail _ h2⟩
      · intro Ed h3 tk3 oE F4 N4 lo4 dE lt4
        have N5 := News.shrink N4 hs
        clear N3 N4 F3
        (repeat' ((fail_if_success (with_reducible show Hold _)); (fail_if_success (with_reducible show TurnEnd0 _ _ _ _ _ _ _ _ _ _)); first | (k_unfold; (try dsimp only)) | (k_end; first | kc_close | wrow_close) | ((with_reducible show wpAny _ _ (call _ _) _ _ _); (try dsimp only); first | ((with_reducible show wpAny _ _ (call (Value.builtin "len") [Value.ref _]) _ _ _); k_dflt (first | refine kda_len (knd := intKind _ _) (by k_asm) (by k_mem) (by k_asm) (by k_asm) (by omega) ?_ | refine kda_len (knd := PySem.strKind _ _) (by k_asm) (by k_mem) (by k_asm) (by k_asm) (by omega) ?_))) | ((with_reducible show wpAny _ _ (eval (PySem.Expr.Name _ _) (envOf _ _ _ _ _)) _ _ _); first | k_dflt (refine' ld ?k1 ?k2 ?_; (case k1 => k_asm); (case k2 => exact rfl); k_whole) | (with_unfolding_all refine guard_global (by rfl) ?_; k_dflt (refine' name_K ?kF ?k1 ?k2 ?k3 ?_; (case kF => k_asm); (case k1 => k_asm); (case k2 => k_asm); (case k3 => k_is); k_whole))) | walk1 | (dsimp only; walk1) | (leave1; try dsimp only)))
        have hx1 : OpsOk _ kvO pf := OpsOk.mono ok (List.IsPrefix.trans (by assumption) (by assumption)) (SymT.nd (by assumption))
        refine' hret _ _ _ _ ?q1zp ?q1zf ?q1zn ?q1zk ?q1zr
        case q1zf => k_asm
        case q1zn => k_asm
        case q1zk => refine keep_mut (by k_asm) (by k_asm) hN (by k_asm) ?_; repeat' (first | (with_reducible refine fac ?_ ?_) | (with_reducible exact List.forall_mem_nil _) | ((with_reducible apply Or.inl); tb_rel) | ((with_reducible apply Or.inr); first | tb_rel | k_mem) | (intro p' hp'; refine Or.inr ?_; (repeat (with_reducible apply kfs5)); (repeat (refine List.Mem.tail _ ?_)); first | exact hp' | exact sub_at (by assumption) hp'))
        case q1zr => exact fresh_of (by k_asm) (by k_asm)
        case q1zp =>
          refine' ⟨by simp [e3], NS.mk _ _ _ _ _ _ _ _ _ _ _ _ _ _ _ _ (kvOfD d1) _ _ _ _ pf, ?q1inv, ?q1sub, ?q1mem⟩
          case q1mem =>
            dsimp only [NS.heads, List.cons_append, List.nil_append]
            repeat' (first | (with_reducible refine fac ?_ ?_) | tb_rel | ((with_reducible show _ ∈ _); k_mem) | (intro p' hp'; (repeat (with_reducible apply kfs5)); (repeat (refine List.Mem.tail _ ?_)); exact hp'))
          case q1sub => first | assumption | exact fun _ h => h
          case q1inv =>
            refine' ⟨?q1v1, ?q1v2, ?q1v3, ?q1v4, ?q1v5, ?q1v6, ?q1v7, ?q1v8, ?q1v9, ?q1v10, ?q1v11, ?q1v12, ?q1v13, ?q1v14, ?q1v15, ?q1v16, ?q1v17, ?q1v18, ?q1v19, ?q1v20⟩
            case q1v1 => assumption
            case q1v2 => dsimp only [NC.adrs]; assumption
            case q1v3 => assumption
            case q1v12 => assumption
            case q1v5 => assumption
            case q1v6 => assumption
            case q1v8 => assumption
            case q1v10 => assumption
            case q1v4 => assumption
            case q1v7 => exact tok
            case q1v9 => exact SymsOk.mono sk1 (by assumption)
            case q1v11 => exact pok
            case q1v17 => dsimp only; omega
            case q1v19 => exact Nat.le_trans z1 (by omega)
            case q1v18 => dsimp only; omega
            all_goals (dsimp only; omega)

  · have hx1 := ok
    refine' hret _ _ _ _ ?q2zp ?q2zf ?q2zn ?q2zk ?q2zr
    case q2zf => k_asm
    case q2zn => k_asm
    case q2zk => refine keep_mut (by k_asm) (by k_asm) hN (by k_asm) ?_; repeat' (first | (with_reducible refine fac ?_ ?_) | (with_reducible exact List.forall_mem_nil _) | ((with_reducible apply Or.inl); tb_rel) | ((with_reducible apply Or.inr); first | tb_rel | k_mem) | (intro p' hp'; refine Or.inr ?_; (repeat (with_reducible apply kfs5)); (repeat (refine List.Mem.tail _ ?_)); first | exact hp' | exact sub_at (by assumption) hp'))
    case q2zr => exact fresh_of (by k_asm) (by k_asm)
    case q2zp =>
      refine' ⟨by simp, NS.mk _ _ _ _ _ _ _ _ _ _ _ _ _ _ _ _ _ _ _ _ _ pf, ?q2inv, ?q2sub, ?q2mem⟩
      case q2mem =>
        dsimp only [NS.heads, List.cons_append, List.nil_append]
        repeat' (first | (with_reducible refine fac ?_ ?_) | tb_rel | ((with_reducible show _ ∈ _); k_mem) | (intro p' hp'; (repeat (with_reducible apply kfs5)); (repeat (refine List.Mem.tail _ ?_)); exact hp'))
      case q2sub => first | assumption | exact fun _ h => h
      case q2inv =>
        refine' ⟨?q2v1, ?q2v2, ?q2v3, ?q2v4, ?q2v5, ?q2v6, ?q2v7, ?q2v8, ?q2v9, ?q2v10, ?q2v11, ?q2v12, ?q2v13, ?q2v14, ?q2v15, ?q2v16, ?q2v17, ?q2v18, ?q2v19, ?q2v20⟩
        case q2v1 => assumption
        case q2v2 => dsimp only [NC.adrs]; assumption
        case q2v3 => assumption
        case q2v12 => assumption
        case q2v5 => assumption
        case q2v6 => assumption
        case q2v8 => assumption
        case q2v10 => assumption
        case q2v4 => exact ok
        case q2v7 => exact tok
        case q2v9 => exact sok
        case q2v11 => exact pok
        case q2v17 => dsimp only; omega
        case q2v19 => dsimp only; omega
        case q2v18 => dsimp only; omega
        all_goals (dsimp only; omega)

  · unfold Hold
    rename Fr _ _ _ _ => F1
    rename News _ _ _ _ => N1
    rename IsRange _ _ _ _ _ _ _ _ => R1
    rename TitlesOk (sdef _ _ _) => tk2
    rename Obj.IsDictOf _ _ (sdef _ _ _) => d1
    have z2 := sdef_len_of d1
    have hss : ∀ x ∈ (List.range 4).map (fun j : Nat => titleAt (kvOfT tk2) (j : Int)), x ∈ SIX := fun x hx => by
      obtain ⟨j, _, rfl⟩ := List.mem_map.mp hx
      exact titleAt_six tk2 _
    refine LCg.CompSrc.range (n := 4) rfl F1 N1 R1 (by decide) (by decide) (small_line (by decide)) ?_
    intro g0
    refine comp_keep (fun i ys => CarriedAll ys (((List.range i).map fun j : Nat => titleAt (kvOfT tk2) (j : Int)).map PyData.str)) .nil ?w2a ?w2b
    case w2a =>
      rintro i ys v I oI C oC D m₂ h tk E' hlt hJ ⟨t, rfl⟩ hC hx F' N' off0 ne
      rw [Int.zero_add] at hx
      have off1 := off0
      dsimp only
      (repeat' ((fail_if_success (with_reducible show Hold _)); (fail_if_success (with_reducible show TurnEnd0 _ _ _ _ _ _ _ _ _ _)); first | (k_unfold; (try dsimp only)) | (k_end; first | kc_close | wrow_close) | ((with_reducible show wpAny _ _ (call _ _) _ _ _); (try dsimp only); first | ((with_reducible show wpAny _ _ (call (Value.ref 272) _) _ _ _); k_dflt (refine' title2_use ?kB ?kF ?kX ?kN ?kT ?kf ?kk ?kd ?ku ?zm1 ?zm2 ?zset ?zm3 ?zdo ?zlo ?zt ?_; (case kB => k_asm); (case kF => k_asm); (case kX => k_asm); (case kN => k_asm); (case kT => k_asm); (case kf => first | exact rfl | assumption); (case kk => first | exact rfl | assumption); (case kd => k_room); (case ku => k_units); (case zm1 => k_mem); (case zm2 => k_mem); (case zset => k_get); (case zm3 => k_mem); (case zdo => assumption); (case zlo => assumption); (case zt => assumption); k_whole); intro _ _ _ _ _; (try dsimp only); (try k_sweep))) | ((with_reducible show wpAny _ _ (eval (PySem.Expr.Name _ _) (envOf _ _ _ _ _)) _ _ _); first | k_dflt (refine' ld ?k1 ?k2 ?_; (case k1 => k_asm); (case k2 => exact rfl); k_whole) | (with_unfolding_all refine guard_global (by rfl) ?_; k_dflt (refine' name_K ?kF ?k1 ?k2 ?k3 ?_; (case kF => k_asm); (case k1 => k_asm); (case k2 => k_asm); (case k3 => k_is); k_whole))) | walk1 | (dsimp only; walk1) | (leave1; try dsimp only)))
      unfold Hold
      rename Fr _ _ _ _ => F3
      rename News _ _ _ _ => N3
      refine comp_keep_end F3 N3 ?w2c off1 trivial ?w2d
      case w2c => repeat' (first | (with_reducible refine fac ?_ ?_) | tb_rel | ((with_reducible show _ ∈ _); k_mem) | (intro p' hp'; (repeat (with_reducible apply kfs5)); (repeat (refine List.Mem.tail _ ?_)); exact hp'))
      case w2d =>
        rw [List.range_succ, List.map_append, List.map_append]
        exact carried_snoc hJ (.str _ _)
    case w2b =>
      rintro ys hJ
      dsimp only
      (repeat' ((fail_if_success (with_reducible show Hold _)); (fail_if_success (with_reducible show TurnEnd0 _ _ _ _ _ _ _ _ _ _)); first | (k_unfold; (try dsimp only)) | (k_end; first | kc_close | wrow_close) | ((with_reducible show wpAny _ _ (eval (PySem.Expr.Name _ _) (envOf _ _ _ _ _)) _ _ _); first | k_dflt (refine' ld ?k1 ?k2 ?_; (case k1 => k_asm); (case k2 => exact rfl); k_whole) | (with_unfolding_all refine guard_global (by rfl) ?_; k_dflt (refine' name_K ?kF ?k1 ?k2 ?k3 ?_; (case kF => k_asm); (case k1 => k_asm); (case k2 => k_asm); (case k3 => k_is); k_whole))) | walk1 | (dsimp only; walk1) | (leave1; try dsimp only)))
      unfold Hold
      rename Fr _ _ _ _ => F3
      rename News _ _ _ _ => N3
      rename IsRange _ _ _ _ _ _ _ _ => R3
      refine LCg.CompSrc.range (n := 4) rfl F3 N3 R3 (by decide) (by decide) (small_line (by decide)) ?_
      intro g1
      refine comp_keep (fun i ys => CarriedAll ys (((List.range i).map fun j : Nat => titleAt (kvOfT tk2) (j : Int)).map PyData.str)) .nil ?w2e ?w2f
      case w2e =>
        rintro i ys2 v I oI C oC D m₂ h tk E' hlt hJ2 ⟨t, rfl⟩ hC hx F' N' off0 ne
        rw [Int.zero_add] at hx
        have off1 := off0
        dsimp only
        (repeat' ((fail_if_success (with_reducible show Hold _)); (fail_if_success (with_reducible show TurnEnd0 _ _ _ _ _ _ _ _ _ _)); first | (k_unfold; (try dsimp only)) | (k_end; first | kc_close | wrow_close) | ((with_reducible show wpAny _ _ (call _ _) _ _ _); (try dsimp only); first | ((with_reducible show wpAny _ _ (call (Value.builtin "dict.get") _) _ _ _); ((try dsimp only [List.nil_append, List.cons_append]); k_dflt (first | (refine dget_title (by k_asm) (by k_mem) (by k_asm) (by k_asm) (by assumption) ?_; intro _) | (refine dget_op (by k_asm) (by k_mem) (by k_asm) (by k_asm) (by assumption) ?_; intro _))))) | ((with_reducible show wpAny _ _ (eval (PySem.Expr.Name _ _) (envOf _ _ _ _ _)) _ _ _); first | k_dflt (refine' ld ?k1 ?k2 ?_; (case k1 => k_asm); (case k2 => exact rfl); k_whole) | (with_unfolding_all refine guard_global (by rfl) ?_; k_dflt (refine' name_K ?kF ?k1 ?k2 ?k3 ?_; (case kF => k_asm); (case k1 => k_asm); (case k2 => k_asm); (case k3 => k_is); k_whole))) | walk1 | (dsimp only; walk1) | (leave1; try dsimp only)))
        unfold Hold
        rename Fr _ _ _ _ => F5
        rename News _ _ _ _ => N5
        refine comp_keep_end F5 N5 ?w2g off1 trivial ?w2h
        case w2g => repeat' (first | (with_reducible refine fac ?_ ?_) | tb_rel | ((with_reducible show _ ∈ _); k_mem) | (intro p' hp'; (repeat (with_reducible apply kfs5)); (repeat (refine List.Mem.tail _ ?_)); exact hp'))
        case w2h =>
          rw [List.range_succ, List.map_append, List.map_append]
          exact carried_snoc hJ2 (.str _ _)
      case w2f =>
        rintro ys2 hJ2
        dsimp only
        (repeat' ((fail_if_success (with_reducible show Hold _)); (fail_if_success (with_reducible show TurnEnd0 _ _ _ _ _ _ _ _ _ _)); first | (k_unfold; (try dsimp only)) | (k_end; first | kc_close | wrow_close) | ((with_reducible show wpAny _ _ (compareOp _ _ _) _ _ _); (try dsimp only); first | ((with_reducible show wpAny _ _ (compareOp CmpOp.Eq (Value.ref _) (Value.ref _)) _ _ _); (k_dflt (first | (refine eq_ints (by k_asm) (by k_mem) (by k_mem) (by assumption) (by assumption) (by k_units) ?_) | (refine eq_strs (by assumption) (isList_M (by k_asm) (by k_mem)) (isList_M (by k_asm) (by k_mem)) (by assumption) (by assumption) (by k_units) ?_))))) | ((with_reducible show wpAny _ _ (eval (PySem.Expr.Name _ _) (envOf _ _ _ _ _)) _ _ _); first | k_dflt (refine' ld ?k1 ?k2 ?_; (case k1 => k_asm); (case k2 => exact rfl); k_whole) | (with_unfolding_all refine guard_global (by rfl) ?_; k_dflt (refine' name_K ?kF ?k1 ?k2 ?k3 ?_; (case kF => k_asm); (case k1 => k_asm); (case k2 => k_asm); (case k3 => k_is); k_whole))) | walk1 | (dsimp only; walk1) | (leave1; try dsimp only)))
        refine' hret _ _ _ _ ?q3zp ?q3zf ?q3zn ?q3zk ?q3zr
        case q3zf => k_asm
        case q3zn => k_asm
        case q3zk => refine keep_mut (by k_asm) (by k_asm) hN (by k_asm) ?_; repeat' (first | (with_reducible refine fac ?_ ?_) | (with_reducible exact List.forall_mem_nil _) | ((with_reducible apply Or.inl); tb_rel) | ((with_reducible apply Or.inr); first | tb_rel | k_mem) | (intro p' hp'; refine Or.inr ?_; (repeat (with_reducible apply kfs5)); (repeat (refine List.Mem.tail _ ?_)); first | exact hp' | exact sub_at (by assumption) hp'))
        case q3zr => exact fresh_of (by k_asm) (by k_asm)
        case q3zp =>
          refine' ⟨rfl, NS.mk _ _ _ _ _ _ _ _ _ _ _ _ _ (kvOfT tk2) _ _ _ _ _ _ _ pf, ?q3inv, ?q3sub, ?q3mem⟩
          case q3mem =>
            dsimp only [NS.heads, List.cons_append, List.nil_append]
            repeat' (first | (with_reducible refine fac ?_ ?_) | tb_rel | ((with_reducible show _ ∈ _); k_mem) | (intro p' hp'; (repeat (with_reducible apply kfs5)); (repeat (refine List.Mem.tail _ ?_)); exact hp'))
          case q3sub => first | assumption | exact fun _ h => h
          case q3inv =>
            refine' ⟨?q3v1, ?q3v2, ?q3v3, ?q3v4, ?q3v5, ?q3v6, ?q3v7, ?q3v8, ?q3v9, ?q3v10, ?q3v11, ?q3v12, ?q3v13, ?q3v14, ?q3v15, ?q3v16, ?q3v17, ?q3v18, ?q3v19, ?q3v20⟩
            case q3v1 => assumption
            case q3v2 => dsimp only [NC.adrs]; assumption
            case q3v3 => assumption
            case q3v12 => assumption
            case q3v5 => assumption
            case q3v6 => assumption
            case q3v8 => assumption
            case q3v10 => assumption
            case q3v4 => exact ok
            case q3v7 => exact tk2
            case q3v9 => exact sok
            case q3v11 => exact pok
            case q3v17 => dsimp only; omega
            case q3v19 => dsimp only; omega
            case q3v18 => exact Nat.le_trans z2 (by omega)
            all_goals (dsimp only; omega)

  · unfold Hold
    rename Fr _ _ _ _ => F1
    rename News _ _ _ _ => N1
    rename IsRange _ _ _ _ _ _ _ _ => R1
    rename Int => r4
    obtain ⟨nn, rfl⟩ : ∃ nn : Nat, r4 = (nn : Int) := ⟨r4.toNat, by omega⟩
    have hn4 : nn < 4 := by omega
    obtain ⟨kt4, kn4, N2⟩ : ∃ kt4 kn4, News gF LF _ ((LF + 1 + 1 + 1, oc1) :: (LF + 1 + 1, oc2) :: (LF + 1, oc3) :: (dk, W.listOf #[Value.ref ce, Value.int (k + 1 + 1 + 1 + 1) kt4] kn4) :: (ce, W.listOf ws.toArray nc) :: (set, instObj 598 sd) :: (sd, setObj w tab ti op pt f tf z) :: (tab, instObj 128 dt) :: (dt, tabObj w rl bd ta tb n) :: (rl, W.listOf its nl) :: (bd, ob) :: (ti, ot) :: (op, oo) :: (stt, ost) :: (sy, oy) :: (sti, os) :: (sop, oq) :: l) := ⟨_, _, News.sub N1 (by repeat' (first | (with_reducible refine fac ?_ ?_) | tb_rel | ((with_reducible show _ ∈ _); k_memK) | (intro p' hp'; (repeat (with_reducible apply kfs5)); (repeat (refine List.Mem.tail _ ?_)); exact hp')))⟩
    refine LCg.CompSrc.range (n := nn) rfl F1 N2 R1 (PySem.small_one (by omega) (by omega) (by omega) (by omega)) (range_size nn) (small_line (by omega)) ?_
    intro g0
    refine comp_ind (fun i ys nx => ∃ (xs : List Str) (kk : Int) (kt9 : Tok) (kn9 : Nat), xs.length = i ∧ CarriedAll ys (xs.map PyData.str) ∧ (∀ x ∈ xs, x ∈ SIX) ∧ 0 ≤ kk ∧ kk ≤ k + 4 + (i : Int) ∧ nx = (LF + 1 + 1 + 1, oc1) :: (LF + 1 + 1, oc2) :: (LF + 1, oc3) :: (dk, W.listOf #[Value.ref ce, Value.int (kk) kt9] kn9) :: (ce, W.listOf ws.toArray nc) :: (set, instObj 598 sd) :: (sd, setObj w tab ti op pt f tf z) :: (tab, instObj 128 dt) :: (dt, tabObj w rl bd ta tb n) :: (rl, W.listOf its nl) :: (bd, ob) :: (ti, ot) :: (op, oo) :: (stt, ost) :: (sy, oy) :: (sti, os) :: (sop, oq) :: l) ⟨[], _, kt4, kn4, rfl, .nil, fun _ h => (nomatch h), by omega, by omega, rfl⟩ ?w3a ?w3b
    case w3a =>
      rintro i ys nx v I oI C oC D m₂ h tk E' hlt ⟨xs, kk, kt9, kn9, hxl, hca, hsx, hk1, hk2, rfl⟩ ⟨t, rfl⟩ hC hx F' N' off0 ne
      have off1 := off0
      dsimp only
      (repeat' ((fail_if_success (with_reducible show Hold _)); (fail_if_success (with_reducible show TurnEnd0 _ _ _ _ _ _ _ _ _ _)); first | (k_unfold; (try dsimp only)) | (k_end; first | kc_close | wrow_close) | ((with_reducible show wpAny _ _ (call _ _) _ _ _); (try dsimp only); first | ((with_reducible show wpAny _ _ (call (Value.ref 984) _) _ _ _); k_dflt (refine' draw_use ?kB ?kF ?kX ?kN ?kT ?kf ?kk ?kd ?ku ?zm1 ?zm2 ?zhi ?zhlo ?zhhi ?zhb ?zhk0 ?zhk1 ?zhm0 ?zhm1 ?zhne ?zR ?_; (case kB => k_asm); (case kF => k_asm); (case kX => k_asm); (case kN => k_asm); (case kT => k_asm); (case kf => first | exact rfl | assumption); (case kk => first | exact rfl | assumption); (case kd => k_room); (case ku => k_units); (case zm1 => k_mem); (case zm2 => k_mem); (case zhi => assumption); (case zhlo => assumption); (case zhhi => assumption); (case zhb => assumption); (case zhk0 => (first | assumption | omega)); (case zhk1 => (first | assumption | omega)); (case zhm0 => (first | assumption | omega | decide)); (case zhm1 => (first | assumption | omega | decide)); (case zhne => (first | assumption | omega)); (case zR => k_updF); k_whole); intro _ _ _ _ _ _ _ _ _; (try dsimp only); (try k_sweep))) | ((with_reducible show wpAny _ _ (subscriptTail _ _ _ _) _ _ _); (try dsimp only); first | ((with_reducible show wpAny _ _ (subscriptTail _ _ (Value.ref 972) (Value.int _ _)) _ _ _); k_dflt (refine' txt_item ?k1 ?k2 ?k4 ?k5 ?_ ?k6; (case k1 => k_asm); (case k2 => k_asm); (case k4 => first | assumption | omega); (case k5 => first | assumption | omega); (case k6 => with_unfolding_all rfl); k_whole); intro _ _ _)) | ((with_reducible show wpAny _ _ (eval (PySem.Expr.Name _ _) (envOf _ _ _ _ _)) _ _ _); first | k_dflt (refine' ld ?k1 ?k2 ?_; (case k1 => k_asm); (case k2 => exact rfl); k_whole) | (with_unfolding_all refine guard_global (by rfl) ?_; k_dflt (refine' name_K ?kF ?k1 ?k2 ?k3 ?_; (case kF => k_asm); (case k1 => k_asm); (case k2 => k_asm); (case k3 => k_is); k_whole))) | walk1 | (dsimp only; walk1) | (leave1; try dsimp only)))
      unfold Hold
      rename Fr _ _ _ _ => F3
      rename News _ _ _ _ => N3
      rename Str => x9
      have hx9 : x9 ∈ SIX := by assumption
      refine' LCg.CompEnd.intro F3 N3 ((LF + 1 + 1 + 1, oc1) :: (LF + 1 + 1, oc2) :: (LF + 1, oc3) :: (dk, W.listOf #[Value.ref ce, Value.int (kk + 1) _] _) :: (ce, W.listOf ws.toArray nc) :: (set, instObj 598 sd) :: (sd, setObj w tab ti op pt f tf z) :: (tab, instObj 128 dt) :: (dt, tabObj w rl bd ta tb n) :: (rl, W.listOf its nl) :: (bd, ob) :: (ti, ot) :: (op, oo) :: (stt, ost) :: (sy, oy) :: (sti, os) :: (sop, oq) :: l) ?w3s off1 trivial ⟨xs ++ [x9], kk + 1, _, _, by simp [hxl], ?w3t, ?w3u, by omega, by omega, rfl⟩
      case w3s => repeat' (first | (with_reducible refine fac ?_ ?_) | tb_rel | ((with_reducible show _ ∈ _); k_memK) | (intro p' hp'; (repeat (with_reducible apply kfs5)); (repeat (refine List.Mem.tail _ ?_)); exact hp'))
      case w3t =>
        rw [List.map_append]
        exact carried_snoc hca (.str _ _)
      case w3u =>
        intro x hx2
        rcases List.mem_append.mp hx2 with hx2 | hx2
        · exact hsx x hx2
        · rw [List.mem_singleton.mp hx2]; exact hx9
    case w3b =>
      rintro ys nx ⟨xs, kk, kt9, kn9, hxl, hca, hsx, hk1, hk2, rfl⟩
      unfold LCg.FinA
      intro dn h3 tk3 F3 N3 o3
      have o3' := o3
      have hyl : ys.length = xs.length := by rw [carried_len hca, List.length_map]
      have hys : ys.toArray.size = xs.length := by simpa using hyl
      have hyz : ys.toArray.size ≤ 1000 := by omega
      dsimp only
      (repeat' ((fail_if_success (with_reducible show Hold _)); (fail_if_success (with_reducible show TurnEnd0 _ _ _ _ _ _ _ _ _ _)); first | (k_unfold; (try dsimp only)) | (k_end; first | kc_close | wrow_close) | ((with_reducible show wpAny _ _ (eval (PySem.Expr.Name _ _) (envOf _ _ _ _ _)) _ _ _); first | k_dflt (refine' ld ?k1 ?k2 ?_; (case k1 => k_asm); (case k2 => exact rfl); k_whole) | (with_unfolding_all refine guard_global (by rfl) ?_; k_dflt (refine' name_K ?kF ?k1 ?k2 ?k3 ?_; (case kF => k_asm); (case k1 => k_asm); (case k2 => k_asm); (case k3 => k_is); k_whole))) | walk1 | (dsimp only; walk1) | (leave1; try dsimp only)))
      unfold Hold
      rename Fr _ _ _ _ => F4
      rename News _ _ _ _ => N4
      refine LCg.CompSrc.ledger (its := ys.toArray) rfl F4 N4 (.head _) (small_line (by omega)) ?_
      intro g1
      refine comp_ind (fun i ys2 nx => ∃ l', nx = (dn, LCg.lst ys) :: (LF + 1 + 1 + 1, oc1) :: (LF + 1 + 1, oc2) :: (LF + 1, oc3) :: (dk, W.listOf #[Value.ref ce, Value.int (kk) kt9] kn9) :: (ce, W.listOf ws.toArray nc) :: (set, instObj 598 sd) :: (sd, setObj w tab ti op pt f tf z) :: (tab, instObj 128 dt) :: (dt, tabObj w rl bd ta tb n) :: (rl, W.listOf its nl) :: (bd, ob) :: (ti, ot) :: (op, oo) :: (stt, ost) :: (sy, oy) :: (sti, os) :: (sop, oq) :: l' ∧ (∀ p ∈ l, p ∈ l') ∧ OwnOff l' [dk, ce, set, sd, tab, dt, rl, bd, ti, op, stt, sy, sti, sop] ∧ RowsAre (xs.take i) ys2.toArray l') ⟨l, rfl, fun _ h => h, off, rfl, fun _ _ h => (nomatch h)⟩ ?w3c ?w3d
      case w3c =>
        rintro i ys2 nx v I oI C oC D m₂ h tk E' hlt ⟨l', rfl, hs, ho, hr⟩ hv hC hx F' N' off0 ne
        obtain ⟨x9, hx9⟩ := getElem?_of_lt (xs := xs) (i := i) (by omega)
        obtain ⟨t9, ht9⟩ := carried_at hca i x9 hx9
        have hv9 : v = .str x9 t9 := by
          have hv' : ys[i]? = some v := by simpa using hv
          rw [ht9] at hv'; exact (Option.some.inj hv').symm
        subst hv9
        have off1 := off0
        dsimp only
        (repeat' ((fail_if_success (with_reducible show Hold _)); (fail_if_success (with_reducible show TurnEnd0 _ _ _ _ _ _ _ _ _ _)); first | (k_unfold; (try dsimp only)) | (k_end; first | kc_close | wrow_close) | ((with_reducible show wpAny _ _ (newTuple _) _ _ _); (try dsimp only); first | ((with_reducible show wpAny _ _ (newTuple _) _ _ _); (k_dflt (refine' kup_newTuple ?F ?N ?_ ?z; (case F => k_asm); (case N => k_asm); (case z => exact small_line (Nat.le_of_ble_eq_true rfl))); walk_at "kq1"; (try k_sweep)))) | ((with_reducible show wpAny _ _ (eval (PySem.Expr.Name _ _) (envOf _ _ _ _ _)) _ _ _); first | k_dflt (refine' ld ?k1 ?k2 ?_; (case k1 => k_asm); (case k2 => exact rfl); k_whole) | (with_unfolding_all refine guard_global (by rfl) ?_; k_dflt (refine' name_K ?kF ?k1 ?k2 ?k3 ?_; (case kF => k_asm); (case k1 => k_asm); (case k2 => k_asm); (case k3 => k_is); k_whole))) | walk1 | (dsimp only; walk1) | (leave1; try dsimp only)))
        unfold Hold
        rename Fr _ _ _ _ => F5
        rename News _ _ _ _ => N5
        rename Addr => tA
        refine' LCg.CompEnd.intro F5 N5 ((dn, LCg.lst ys) :: (LF + 1 + 1 + 1, oc1) :: (LF + 1 + 1, oc2) :: (LF + 1, oc3) :: (dk, W.listOf #[Value.ref ce, Value.int (kk) kt9] kn9) :: (ce, W.listOf ws.toArray nc) :: (set, instObj 598 sd) :: (sd, setObj w tab ti op pt f tf z) :: (tab, instObj 128 dt) :: (dt, tabObj w rl bd ta tb n) :: (rl, W.listOf its nl) :: (bd, ob) :: (ti, ot) :: (op, oo) :: (stt, ost) :: (sy, oy) :: (sti, os) :: (sop, oq) :: (tA, _) :: l') ?w3e ?w3f (Or.inr ⟨_, .head _, rfl, _, rfl⟩) ⟨(tA, _) :: l', rfl, fun p hp => .tail _ (hs p hp), ?w3g, ?w3h⟩
        case w3e => repeat' (first | (with_reducible refine fac ?_ ?_) | tb_rel | ((with_reducible show _ ∈ _); k_memK) | (intro p' hp'; (repeat (with_reducible apply kfs5)); (repeat (refine List.Mem.tail _ ?_)); exact hp'))
        case w3f => exact off3_more (a := tA) off1 ⟨by k_ne, by k_ne, by k_ne⟩ (by repeat' (first | (with_reducible refine fac ?_ ?_) | ((with_reducible apply Or.inl); tb_rel) | exact Or.inr rfl | (intro p' hp'; refine Or.inl ?_; (repeat (with_reducible apply kfs5)); (repeat (refine List.Mem.tail _ ?_)); exact hp')))
        case w3g => exact OwnOff.push ho (by repeat' (first | (with_reducible refine fac ?_ ?_) | (with_reducible exact List.forall_mem_nil _) | k_ne))
        case w3h =>
          rw [take_snoc hx9]
          exact RowsAre.succ hr (fun p hp => .tail _ hp) (.head _)
      case w3d =>
        rintro ys2 nx ⟨l', rfl, hs, ho, hr⟩
        rw [List.take_of_length_le (by omega)] at hr
        have sym2 := SymT.ledger sym hs
        unfold LCg.FinE
        intro dr h5 tk5 F5 N5 o5
        have ho2 := OwnOff.cons ho (fun p hp => off1_mem o5 p (by (repeat (with_reducible apply kfs5)); (repeat (refine List.Mem.tail _ ?_)); exact hp))
        dsimp only
        (repeat' ((fail_if_success (with_reducible show Hold _)); (fail_if_success (with_reducible show TurnEnd0 _ _ _ _ _ _ _ _ _ _)); first | (k_unfold; (try dsimp only)) | (k_end; first | kc_close | wrow_close) | ((with_reducible show wpAny _ _ (call _ _) _ _ _); (try dsimp only); first | ((with_reducible show wpAny _ _ (call (Value.ref 279) _) _ _ _); k_dflt (refine' giveops_use ?kB ?kF ?kX ?kN ?kT ?kf ?kk ?kd ?ku ?zm1 ?zm2 ?zm3 ?zm4 ?zm5 ?zm6 ?zm7 ?zm8 ?zS ?zR ?zx ?zxl ?zO ?zok ?zkz ?zlo ?zo ?zs4 ?zc1 ?zc2 ?zc3 ?zc4 ?zc5 ?zc6 ?zc7 ?zl ?zFY ?zh0 ?zRR ?_; (case kB => k_asm); (case kF => k_asm); (case kX => k_asm); (case kN => k_asm); (case kT => k_asm); (case kf => first | exact rfl | assumption); (case kk => first | exact rfl | assumption); (case kd => k_room); (case ku => k_units); (case zm1 => k_mem); (case zm2 => k_mem); (case zm3 => k_mem); (case zm4 => k_mem); (case zm5 => k_mem); (case zm6 => k_mem); (case zm7 => k_mem); (case zm8 => k_mem); (case zS => assumption); (case zR => assumption); (case zx => assumption); (case zxl => omega); (case zO => assumption); (case zok => assumption); (case zkz => omega); (case zlo => assumption); (case zo => assumption); (case zs4 => (repeat' (first | exact List.forall_mem_nil _ | (refine fac (by k_memK) ?_)))); (case zc1 => (first | assumption | omega)); (case zc2 => (first | assumption | omega)); (case zc3 => (first | assumption | omega)); (case zc4 => (first | assumption | omega)); (case zc5 => (first | assumption | omega)); (case zc6 => (first | assumption | omega)); (case zc7 => (first | assumption | (refine ⟨?_, ?_, ?_, ?_, ?_, ?_, ?_⟩ <;> k_ne))); (case zl => (intro p' hp'; (repeat (with_reducible apply kfs5)); (repeat (refine List.Mem.tail _ ?_)); exact hp')); (case zFY => (repeat' (first | exact List.forall_mem_nil _ | (refine List.forall_mem_cons.mpr ⟨⟨_, by k_mem⟩, ?_⟩)))); (case zh0 => (first | assumption | exact fun _ h => h)); (case zRR => k_updF); k_whole); intro _ _ _ _ _ _ _ _ _ _ _ _ _; (try dsimp only); (try k_sweep)) | ((with_reducible show wpAny _ _ (call (Value.builtin "len") [Value.ref _]) _ _ _); k_dflt (refine' len_M ?k1 ?k2 ?k3 ?_; (case k1 => k_asm); (case k2 => k_mem); (case k3 => first | assumption | (simp only [Array.size_push]; omega)); k_whole); (try dsimp only))) | ((with_reducible show wpAny _ _ (exec (PySem.Stmt.For _ _ _ _ _) _) _ _ _); ((rename Fr _ _ _ _ => lF'); (with_unfolding_all refine' For_invVF lF' ?k1 ?k2 ?_; (case k1 => exact rfl); (case k2 => exact rfl); k_whole))) | ((with_reducible show wpAny _ _ (eval (PySem.Expr.Name _ _) (envOf _ _ _ _ _)) _ _ _); first | k_dflt (refine' ld ?k1 ?k2 ?_; (case k1 => k_asm); (case k2 => exact rfl); k_whole) | (with_unfolding_all refine guard_global (by rfl) ?_; k_dflt (refine' name_K ?kF ?k1 ?k2 ?k3 ?_; (case kF => k_asm); (case k1 => k_asm); (case k2 => k_asm); (case k3 => k_is); k_whole))) | walk1 | (dsimp only; walk1) | (leave1; try dsimp only)))
        unfold Hold
        rename Fr _ _ _ _ => F6
        rename News _ _ _ _ => N6
        rename IsRange _ _ _ _ _ _ _ _ => R6
        rename SymR × Obj => rg
        rename OpsOk _ _ (after pf xs) => ok6
        rename SymT _ _ _ _ _ => sym6
        rename OwnOff _ _ => off6
        rename (_ <+: _) => pre6
        rename Obj.IsDictOf _ _ _ => dO6
        have sub6 : ∀ p ∈ l, p ∈ rg.1.l := by assumption
        rename (_ ≤ kvO.length + xs.length) => z6
        refine range_loop0 (n := ys.toArray.size) (fun i nx => ∃ (oq' : Obj) (kvP' : List (Str × Value)), nx = (dr, LCg.lst ys2) :: (dn, LCg.lst ys) :: (LF + 1 + 1 + 1, oc1) :: (LF + 1 + 1, oc2) :: (LF + 1, oc3) :: (dk, W.listOf #[Value.ref ce, Value.int (kk) kt9] kn9) :: (ce, W.listOf ws.toArray nc) :: (set, instObj 598 sd) :: (sd, setObj w tab ti op pt f tf z) :: (tab, instObj 128 dt) :: (dt, tabObj w rl bd ta tb n) :: (rl, W.listOf rg.1.its rg.1.nl) :: (bd, rg.1.o) :: (ti, ot) :: (op, rg.2) :: (stt, ost) :: (sy, oy) :: (sti, os) :: (sop, oq') :: rg.1.l ∧ oq'.IsDictOf (SK w) kvP' ∧ SopOk kvP' (after pf (xs.take i)) ∧ kvP'.length ≤ kvP.length + i) rfl R6 rfl (by omega) F6 N6 ⟨oq, kvP, rfl, dP, pok, by omega⟩ ?w3i ?w3j
        case w3i =>
          clear F6 N6 R6
          rintro i t I nx h tk oI hlt ⟨oq', kvP', rfl, hd9, hp9, hz9⟩ hI F' N'
          dsimp only [envOfC] at F' N'
          obtain ⟨x9, hx9⟩ := getElem?_of_lt (xs := xs) (i := i) (by omega)
          obtain ⟨t9, ht9⟩ := carried_at hca i x9 hx9
          have hit : ys.toArray[((i : Nat) : Int).toNat]? = some (Value.str x9 t9) := by simpa using ht9
          have hz8 : kvP'.length ≤ 1000 := by omega
          dsimp only
          (repeat' ((fail_if_success (with_reducible show Hold _)); (fail_if_success (with_reducible show TurnEnd0 _ _ _ _ _ _ _ _ _ _)); first | (k_unfold; (try dsimp only)) | (k_end; first | kc_close | wrow_close) | ((with_reducible show wpAny _ _ (subscriptTail _ _ _ _) _ _ _); (try dsimp only); first | ((with_reducible show wpAny _ _ (subscriptTail _ _ (Value.ref _) (Value.int _ _)) _ _ _); k_dflt (refine' item_M ?k1 ?k2 ?k4 ?k5 ?k3 ?_ ?k6; (case k1 => k_asm); (case k2 => k_mem); (case k3 => assumption); (case k4 => first | with_reducible assumption | omega); (case k5 => first | with_reducible assumption | omega); (case k6 => with_unfolding_all rfl); k_whole))) | ((with_reducible show wpAny _ _ (setItem _ _ _) _ _ _); (try dsimp only); first | ((with_reducible show wpAny _ _ (setItem (Value.ref _) _ _) _ _ _); k_dflt (first | (refine' kda_set (knd := PySem.strKind _ _) ?k1 ?k2 ?k3 ?k4 (strKind_is _ _ _ _) ?k5 ?_; (case k1 => k_asm); (case k2 => k_asm); (case k3 => k_updF); (case k4 => k_asm); (case k5 => exact small_line (by assumption)); k_whole) | (refine' kda_set (knd := intKind _ _) ?k1 ?k2 ?k3 ?k4 (intKind_is _ _ _ _) ?k5 ?_; (case k1 => k_asm); (case k2 => k_asm); (case k3 => k_updF); (case k4 => k_asm); (case k5 => exact small_line (by assumption)); k_whole)); walk_at "kq3"; (try k_sweep))) | ((with_reducible show wpAny _ _ (eval (PySem.Expr.Name _ _) (envOf _ _ _ _ _)) _ _ _); first | k_dflt (refine' ld ?k1 ?k2 ?_; (case k1 => k_asm); (case k2 => exact rfl); k_whole) | (with_unfolding_all refine guard_global (by rfl) ?_; k_dflt (refine' name_K ?kF ?k1 ?k2 ?k3 ?_; (case kF => k_asm); (case k1 => k_asm); (case k2 => k_asm); (case k3 => k_is); k_whole))) | walk1 | (dsimp only; walk1) | (leave1; try dsimp only)))
          rename Fr _ _ _ _ => F7
          rename News _ _ _ _ => N7
          rename Obj => oq2
          rename Obj.IsDictOf _ _ _ => d7
          refine turn_next F7 N7 ?w3k ⟨oq2, _, rfl, d7, ?w3l, ?w3m⟩
          case w3k => exact off1_mem (off1_more hI (by repeat' (first | (with_reducible refine fac ?_ ?_) | ((with_reducible apply mem_adr); first | tb_rel | k_memK) | (intro p' hp'; refine List.mem_map.mpr ⟨p', ?_, rfl⟩; (repeat (with_reducible apply kfs5)); (repeat (refine List.Mem.tail _ ?_)); exact hp'))))
          case w3l =>
            rw [take_snoc hx9]
            have := SopOk.set (x := x9) (t := t) hp9
            rw [List.length_take_of_le (by omega)] at this
            exact this
          case w3m =>
            have h1 := stored_length_le kvP' x9 (Value.int (i : Int) t)
            omega
        case w3j =>
          clear F6 N6 R6
          rintro u nx h tk ⟨oq9, kvP9, rfl, hd9, hp9, hz9⟩ F' N'
          dsimp only [envOfC] at F' N'
          rw [hys, List.take_length] at hp9
          dsimp only
          (repeat' ((fail_if_success (with_reducible show Hold _)); (fail_if_success (with_reducible show TurnEnd0 _ _ _ _ _ _ _ _ _ _)); first | (k_unfold; (try dsimp only)) | (k_end; first | kc_close | wrow_close) | ((with_reducible show wpAny _ _ (exec (Stmt.Assign _ (Expr.ListComp _ [Comprehension.mk _ (Expr.Name (Str.ofString "_law_texts") _) _ _] _ _) _) _) _ _ _); k_dflt (refine assign_listcomp_gen (F₀ := by k_asm) (by rfl) (by with_unfolding_all rfl) (by with_unfolding_all rfl) (by decide) (by rfl) (by decide) (by rfl) (by rfl) (by rfl) ?_)) | ((with_reducible show wpAny _ _ (eval (PySem.Expr.Name _ _) (envOf _ _ _ _ _)) _ _ _); first | k_dflt (refine' ld ?k1 ?k2 ?_; (case k1 => k_asm); (case k2 => exact rfl); k_whole) | (with_unfolding_all refine guard_global (by rfl) ?_; k_dflt (refine' name_K ?kF ?k1 ?k2 ?k3 ?_; (case kF => k_asm); (case k1 => k_asm); (case k2 => k_asm); (case k3 => k_is); k_whole))) | walk1 | (dsimp only; walk1) | (leave1; try dsimp only)))
          unfold Hold
          rename Fr _ _ _ _ => F8
          rename News _ _ _ _ => N8
          refine CompGen.tuple rfl F8 N8 (txt_tuple XF) (by show 6 ≤ 1000; decide) ?_
          intro g2
          refine comp_ind (fun i ys3 nx => ∃ r : SymR, nx = (dr, LCg.lst ys2) :: (dn, LCg.lst ys) :: (LF + 1 + 1 + 1, oc1) :: (LF + 1 + 1, oc2) :: (LF + 1, oc3) :: (dk, W.listOf #[Value.ref ce, Value.int (kk) kt9] kn9) :: (ce, W.listOf ws.toArray nc) :: (set, instObj 598 sd) :: (sd, setObj w tab ti op pt f tf z) :: (tab, instObj 128 dt) :: (dt, tabObj w rl bd ta tb n) :: (rl, W.listOf r.its r.nl) :: (bd, r.o) :: (ti, ot) :: (op, rg.2) :: (stt, ost) :: (sy, oy) :: (sti, os) :: (sop, oq9) :: r.l ∧ SymT w r.T r.its r.o r.l ∧ OpsOk r.T (kvOfD dO6) (after pf xs) ∧ rg.1.T <+: r.T ∧ (∀ p ∈ l, p ∈ r.l) ∧ OwnOff r.l [dk, ce, set, sd, tab, dt, rl, bd, ti, op, stt, sy, sti, sop] ∧ IntsAre ys3 ((SIX.take i).map fun x => ((after pf xs) x).getD (-1))) ⟨rg.1, rfl, sym6, ok6, List.prefix_rfl, sub6, OwnOff.drop off6, .nil⟩ ?w3n ?w3o
          case w3n =>
            clear F8 N8
            rintro i ys3 nx v I oI C oC D m₂ h tk E' hlt ⟨r, rfl, hT9, hok9, hpre9, hsub9, hoff9, hint9⟩ hv hC hx F' N' off0 ne
            obtain ⟨x9, u9, rfl, hx9⟩ := txt_at hv
            have hx6 : x9 ∈ SIX := List.mem_of_getElem? hx9
            have hoffl : ∀ p ∈ r.l, p.1 ≠ I ∧ p.1 ≠ C ∧ p.1 ≠ D := fun p hp => off3_of off0 p (by (repeat (with_reducible apply kfs5)); (repeat (refine List.Mem.tail _ ?_)); exact hp)
            have hoff8 := OwnOff.cons3 hoff9 hoffl
            clear off6 ho2 ho hoff9
            dsimp only
            (repeat' ((fail_if_success (with_reducible show Hold _)); (fail_if_success (with_reducible show TurnEnd0 _ _ _ _ _ _ _ _ _ _)); first | (k_unfold; (try dsimp only)) | (k_end; first | kc_close | wrow_close) | ((with_reducible show wpAny _ _ (call _ _) _ _ _); (try dsimp only); first | ((with_reducible show wpAny _ _ (call (Value.ref 286) _) _ _ _); k_dflt (refine' opat2_use ?kB ?kF ?kX ?kN ?kT ?kf ?kk ?kd ?ku ?zm1 ?zm2 ?zset ?zm3 ?zdo ?zlo ?zT ?zok ?zi ?_; (case kB => k_asm); (case kF => k_asm); (case kX => k_asm); (case kN => k_asm); (case kT => k_asm); (case kf => first | exact rfl | assumption); (case kk => first | exact rfl | assumption); (case kd => k_room); (case ku => k_units); (case zm1 => k_mem); (case zm2 => k_mem); (case zset => k_get); (case zm3 => k_mem); (case zdo => assumption); (case zlo => assumption); (case zT => assumption); (case zok => first | assumption | exact OpsOk.mono (by assumption) (by assumption) (SymT.nd (by assumption))); (case zi => assumption); k_whole); intro _ _ _ _ _; (try dsimp only); (try k_sweep)) | ((with_reducible show wpAny _ _ (call (Value.ref 251) _) _ _ _); k_dflt (refine' num_use ?kB ?kF ?kX ?kN ?kT ?kf ?kk ?kd ?ku ?zm0 ?zm00 ?zset ?zm1 ?zm2 ?zm3 ?zm4 ?zT ?zx ?zlo ?zo ?zs4 ?zc1 ?zc2 ?zc3 ?zc4 ?zc5 ?zl ?zFY ?zh0 ?zR ?_; (case kB => k_asm); (case kF => k_asm); (case kX => k_asm); (case kN => k_asm); (case kT => k_asm); (case kf => first | exact rfl | assumption); (case kk => first | exact rfl | assumption); (case kd => k_room); (case ku => k_units); (case zm0 => k_mem); (case zm00 => k_mem); (case zset => k_get); (case zm1 => k_mem); (case zm2 => k_mem); (case zm3 => k_mem); (case zm4 => k_mem); (case zT => assumption); (case zx => (first | assumption | decide)); (case zlo => assumption); (case zo => assumption); (case zs4 => (repeat' (first | exact List.forall_mem_nil _ | (refine fac (by k_memK) ?_)))); (case zc1 => (first | assumption | omega)); (case zc2 => (first | assumption | omega)); (case zc3 => (first | assumption | omega)); (case zc4 => (first | assumption | omega)); (case zc5 => (first | assumption | omega)); (case zl => (intro p' hp'; (repeat (with_reducible apply kfs5)); (repeat (refine List.Mem.tail _ ?_)); exact hp')); (case zFY => (repeat' (first | exact List.forall_mem_nil _ | (refine List.forall_mem_cons.mpr ⟨⟨_, by k_mem⟩, ?_⟩)))); (case zh0 => (first | assumption | exact fun _ h => h)); (case zR => k_updF); k_whole); intro _ _ _ _ _ _ _ _ _ _ _; (try dsimp only); (try k_sweep))) | ((with_reducible show wpAny _ _ (eval (PySem.Expr.Name _ _) (envOf _ _ _ _ _)) _ _ _); first | k_dflt (refine' ld ?k1 ?k2 ?_; (case k1 => k_asm); (case k2 => exact rfl); k_whole) | (with_unfolding_all refine guard_global (by rfl) ?_; k_dflt (refine' name_K ?kF ?k1 ?k2 ?k3 ?_; (case kF => k_asm); (case k1 => k_asm); (case k2 => k_asm); (case k3 => k_is); k_whole))) | walk1 | (dsimp only; walk1) | (leave1; try dsimp only)))
            unfold Hold
            rename Fr _ _ _ _ => F9
            rename News _ _ _ _ => N9
            rename SymR => r2
            rename SymT _ _ _ _ _ => t2
            rename (_ <+: _) => p2
            rename OwnOff _ _ => w2
            have s2 : ∀ p ∈ l, p ∈ r2.l := by assumption
            have a2 : r2.T[r2.i]? = some x9 := by assumption
            have ok2 := OpsOk.mono hok9 p2 t2.nd
            refine' LCg.CompEnd.intro F9 N9 ((dr, LCg.lst ys2) :: (dn, LCg.lst ys) :: (LF + 1 + 1 + 1, oc1) :: (LF + 1 + 1, oc2) :: (LF + 1, oc3) :: (dk, W.listOf #[Value.ref ce, Value.int (kk) kt9] kn9) :: (ce, W.listOf ws.toArray nc) :: (set, instObj 598 sd) :: (sd, setObj w tab ti op pt f tf z) :: (tab, instObj 128 dt) :: (dt, tabObj w rl bd ta tb n) :: (rl, W.listOf r2.its r2.nl) :: (bd, r2.o) :: (ti, ot) :: (op, rg.2) :: (stt, ost) :: (sy, oy) :: (sti, os) :: (sop, oq9) :: r2.l) ?w3p ?w3q trivial ⟨r2, rfl, t2, ok2, hpre9.trans p2, s2, OwnOff.drop3 w2, ?w3r⟩
            case w3p => exact fun p hp => hp
            case w3q => exact off3_map (hs := [(dr, LCg.lst ys2), (dn, LCg.lst ys), (LF + 1 + 1 + 1, oc1), (LF + 1 + 1, oc2), (LF + 1, oc3), (dk, W.listOf #[Value.ref ce, Value.int (kk) kt9] kn9), (ce, W.listOf ws.toArray nc), (set, instObj 598 sd), (sd, setObj w tab ti op pt f tf z), (tab, instObj 128 dt), (dt, tabObj w rl bd ta tb n), (rl, W.listOf r.its r.nl), (bd, r.o), (ti, ot), (op, rg.2), (stt, ost), (sy, oy), (sti, os), (sop, oq9)]) (hs' := [(dr, LCg.lst ys2), (dn, LCg.lst ys), (LF + 1 + 1 + 1, oc1), (LF + 1 + 1, oc2), (LF + 1, oc3), (dk, W.listOf #[Value.ref ce, Value.int (kk) kt9] kn9), (ce, W.listOf ws.toArray nc), (set, instObj 598 sd), (sd, setObj w tab ti op pt f tf z), (tab, instObj 128 dt), (dt, tabObj w rl bd ta tb n), (rl, W.listOf r2.its r2.nl), (bd, r2.o), (ti, ot), (op, rg.2), (stt, ost), (sy, oy), (sti, os), (sop, oq9)]) (l := r.l) rfl off0 (OwnOff.three w2)
            case w3r =>
              rw [take_snoc hx9, List.map_append]
              exact ints_snoc hint9
          case w3o =>
            clear F8 N8
            rintro ys3 nx ⟨r, rfl, hT9, hok9, hpre9, hsub9, hoff9, hint9⟩
            rw [show SIX.take TXT.size = SIX from rfl] at hint9
            unfold LCg.FinA
            intro dt3 h8 tk8 F9 N9 o9
            dsimp only
            (repeat' ((fail_if_success (with_reducible show Hold _)); (fail_if_success (with_reducible show TurnEnd0 _ _ _ _ _ _ _ _ _ _)); first | (k_unfold; (try dsimp only)) | (k_end; first | kc_close | wrow_close) | ((with_reducible show wpAny _ _ (exec (PySem.Stmt.For _ _ _ _ _) _) _ _ _); ((rename Fr _ _ _ _ => lF'); (with_unfolding_all refine' For_invVF lF' ?k1 ?k2 ?_; (case k1 => exact rfl); (case k2 => exact rfl); k_whole))) | ((with_reducible show wpAny _ _ (eval (PySem.Expr.Name _ _) (envOf _ _ _ _ _)) _ _ _); first | k_dflt (refine' ld ?k1 ?k2 ?_; (case k1 => k_asm); (case k2 => exact rfl); k_whole) | (with_unfolding_all refine guard_global (by rfl) ?_; k_dflt (refine' name_K ?kF ?k1 ?k2 ?k3 ?_; (case kF => k_asm); (case k1 => k_asm); (case k2 => k_asm); (case k3 => k_is); k_whole))) | walk1 | (dsimp only; walk1) | (leave1; try dsimp only)))
            unfold Hold
            rename Fr _ _ _ _ => F10
            rename News _ _ _ _ => N10
            refine tuple_loop0 (fun i nx => ∃ (r : SymR) (oy' : Obj) (kvS' : List (Str × Value)), nx = (dt3, LCg.lst ys3) :: (dr, LCg.lst ys2) :: (dn, LCg.lst ys) :: (LF + 1 + 1 + 1, oc1) :: (LF + 1 + 1, oc2) :: (LF + 1, oc3) :: (dk, W.listOf #[Value.ref ce, Value.int (kk) kt9] kn9) :: (ce, W.listOf ws.toArray nc) :: (set, instObj 598 sd) :: (sd, setObj w tab ti op pt f tf z) :: (tab, instObj 128 dt) :: (dt, tabObj w rl bd ta tb n) :: (rl, W.listOf r.its r.nl) :: (bd, r.o) :: (ti, ot) :: (op, rg.2) :: (stt, ost) :: (sy, oy') :: (sti, os) :: (sop, oq9) :: r.l ∧ SymT w r.T r.its r.o r.l ∧ OpsOk r.T (kvOfD dO6) (after pf xs) ∧ rg.1.T <+: r.T ∧ (∀ p ∈ l, p ∈ r.l) ∧ OwnOff r.l [dk, ce, set, sd, tab, dt, rl, bd, ti, op, stt, sy, sti, sop] ∧ oy'.IsDictOf (SK w) kvS' ∧ SymsOk r.T kvS' ∧ kvS'.length ≤ kvS.length + i) rfl (txt_tuple XF) F10 N10 ⟨r, oy, kvS, rfl, hT9, hok9, hpre9, hsub9, hoff9, dS, SymsOk.mono sok (pre6.trans hpre9), by omega⟩ ?w3s ?w3t
            case w3s =>
              clear F10 N10
              rintro i v I nx h tk oI hv ⟨r, oy', kvS', rfl, hT8, hok8, hpre8, hsub8, hoff8, hd8, hsok8, hz8⟩ hI F' N'
              dsimp only [envOfC] at F' N'
              obtain ⟨x9, u9, rfl, hx9⟩ := txt_at hv
              have hx6 : x9 ∈ SIX := List.mem_of_getElem? hx9
              have hi6 : i < 6 := (List.getElem?_eq_some_iff.mp hx9).1
              have hoffI : ∀ p ∈ r.l, p.1 ≠ I := fun p hp => off1_mem hI p (by (repeat (with_reducible apply kfs5)); (repeat (refine List.Mem.tail _ ?_)); exact hp)
              have hoff7 := OwnOff.cons hoff8 hoffI
              have hz7 : kvS'.length ≤ 1000 := by omega
              clear off6 ho2 ho hoff9 hoff8
              dsimp only
              (repeat' ((fail_if_success (with_reducible show Hold _)); (fail_if_success (with_reducible show TurnEnd0 _ _ _ _ _ _ _ _ _ _)); first | (k_unfold; (try dsimp only)) | (k_end; first | kc_close | wrow_close) | ((with_reducible show wpAny _ _ (call _ _) _ _ _); (try dsimp only); first | ((with_reducible show wpAny _ _ (call (Value.ref 251) _) _ _ _); k_dflt (refine' num_use ?kB ?kF ?kX ?kN ?kT ?kf ?kk ?kd ?ku ?zm0 ?zm00 ?zset ?zm1 ?zm2 ?zm3 ?zm4 ?zT ?zx ?zlo ?zo ?zs4 ?zc1 ?zc2 ?zc3 ?zc4 ?zc5 ?zl ?zFY ?zh0 ?zR ?_; (case kB => k_asm); (case kF => k_asm); (case kX => k_asm); (case kN => k_asm); (case kT => k_asm); (case kf => first | exact rfl | assumption); (case kk => first | exact rfl | assumption); (case kd => k_room); (case ku => k_units); (case zm0 => k_mem); (case zm00 => k_mem); (case zset => k_get); (case zm1 => k_mem); (case zm2 => k_mem); (case zm3 => k_mem); (case zm4 => k_mem); (case zT => assumption); (case zx => (first | assumption | decide)); (case zlo => assumption); (case zo => assumption); (case zs4 => (repeat' (first | exact List.forall_mem_nil _ | (refine fac (by k_memK) ?_)))); (case zc1 => (first | assumption | omega)); (case zc2 => (first | assumption | omega)); (case zc3 => (first | assumption | omega)); (case zc4 => (first | assumption | omega)); (case zc5 => (first | assumption | omega)); (case zl => (intro p' hp'; (repeat (with_reducible apply kfs5)); (repeat (refine List.Mem.tail _ ?_)); exact hp')); (case zFY => (repeat' (first | exact List.forall_mem_nil _ | (refine List.forall_mem_cons.mpr ⟨⟨_, by k_mem⟩, ?_⟩)))); (case zh0 => (first | assumption | exact fun _ h => h)); (case zR => k_updF); k_whole); intro _ _ _ _ _ _ _ _ _ _ _; (try dsimp only); (try k_sweep)) | ((try dsimp only [List.nil_append, List.cons_append]); (with_reducible show wpAny _ _ (call (Value.builtin "dict.setdefault") [Value.ref _, Value.str _ _, _]) _ _ _); k_dflt (refine' setdef_sym ?k1 ?k2 ?k3 ?k4 ?k5 ?k6 ?k7 ?k8 ?k9 ?_; (case k1 => k_asm); (case k2 => k_asm); (case k3 => k_updF); (case k4 => k_asm); (case k5 => assumption); (case k6 => omega); (case k7 => assumption); (case k8 => first | assumption | exact SymsOk.mono (by assumption) (by assumption)); (case k9 => assumption); k_whole); walk_at "kq2"; (try k_sweep))) | ((with_reducible show wpAny _ _ (eval (PySem.Expr.Name _ _) (envOf _ _ _ _ _)) _ _ _); first | k_dflt (refine' ld ?k1 ?k2 ?_; (case k1 => k_asm); (case k2 => exact rfl); k_whole) | (with_unfolding_all refine guard_global (by rfl) ?_; k_dflt (refine' name_K ?kF ?k1 ?k2 ?k3 ?_; (case kF => k_asm); (case k1 => k_asm); (case k2 => k_asm); (case k3 => k_is); k_whole))) | walk1 | (dsimp only; walk1) | (leave1; try dsimp only)))
              rename Fr _ _ _ _ => F11
              rename News _ _ _ _ => N11
              rename SymR => r2
              rename SymT _ _ _ _ _ => t2
              rename (_ <+: _) => p2
              rename OwnOff _ _ => w2
              rename Obj => oy2
              rename SymsOk r2.T _ => sk2
              rename Obj.IsDictOf _ _ _ => d2
              have s2 : ∀ p ∈ l, p ∈ r2.l := by assumption
              have z2 := sdef_len_of d2
              refine turn_next F11 N11 ?w3u2 ⟨r2, oy2, _, rfl, t2, OpsOk.mono hok8 p2 t2.nd, hpre8.trans p2, s2, OwnOff.drop w2, d2, sk2, by omega⟩
              exact off1_mem (off1_map (hs := [(dt3, LCg.lst ys3), (dr, LCg.lst ys2), (dn, LCg.lst ys), (LF + 1 + 1 + 1, oc1), (LF + 1 + 1, oc2), (LF + 1, oc3), (dk, W.listOf #[Value.ref ce, Value.int (kk) kt9] kn9), (ce, W.listOf ws.toArray nc), (set, instObj 598 sd), (sd, setObj w tab ti op pt f tf z), (tab, instObj 128 dt), (dt, tabObj w rl bd ta tb n), (rl, W.listOf r.its r.nl), (bd, r.o), (ti, ot), (op, rg.2), (stt, ost), (sy, oy'), (sti, os), (sop, oq9)]) (hs' := [(dt3, LCg.lst ys3), (dr, LCg.lst ys2), (dn, LCg.lst ys), (LF + 1 + 1 + 1, oc1), (LF + 1 + 1, oc2), (LF + 1, oc3), (dk, W.listOf #[Value.ref ce, Value.int (kk) kt9] kn9), (ce, W.listOf ws.toArray nc), (set, instObj 598 sd), (sd, setObj w tab ti op pt f tf z), (tab, instObj 128 dt), (dt, tabObj w rl bd ta tb n), (rl, W.listOf r2.its r2.nl), (bd, r2.o), (ti, ot), (op, rg.2), (stt, ost), (sy, oy2), (sti, os), (sop, oq9)]) (l := r.l) rfl hI (fun p hp => w2 p hp I (.head _)))
            case w3t =>
              clear F10 N10
              rintro u nx h tk ⟨r, oy', kvS', rfl, hT8, hok8, hpre8, hsub8, hoff8, hd8, hsok8, hz8⟩ F' N'
              dsimp only [envOfC] at F' N'
              have hz8' : kvS'.length ≤ kvS.length + 6 := hz8
              dsimp only
              (repeat' ((fail_if_success (with_reducible show Hold _)); (fail_if_success (with_reducible show TurnEnd0 _ _ _ _ _ _ _ _ _ _)); first | (k_unfold; (try dsimp only)) | (k_end; first | kc_close | wrow_close) | ((with_reducible show wpAny _ _ (eval (Expr.ListComp _ [Comprehension.mk _ (Expr.Name (Str.ofString "_law_texts") _) _ _] _ _) _) _ _ _); k_dflt (refine listcomp_gen (F₀ := by k_asm) (by with_unfolding_all rfl) (by decide) (by rfl) (by decide) (by rfl) ?_)) | ((with_reducible show wpAny _ _ (eval (PySem.Expr.Name _ _) (envOf _ _ _ _ _)) _ _ _); first | k_dflt (refine' ld ?k1 ?k2 ?_; (case k1 => k_asm); (case k2 => exact rfl); k_whole) | (with_unfolding_all refine guard_global (by rfl) ?_; k_dflt (refine' name_K ?kF ?k1 ?k2 ?k3 ?_; (case kF => k_asm); (case k1 => k_asm); (case k2 => k_asm); (case k3 => k_is); k_whole))) | walk1 | (dsimp only; walk1) | (leave1; try dsimp only)))
              unfold Hold
              rename Fr _ _ _ _ => F12
              rename News _ _ _ _ => N12
              refine CompGen.tuple rfl F12 N12 (txt_tuple XF) (by show 6 ≤ 1000; decide) ?_
              intro g3
              refine comp_keep (fun i ys4 => IntsAre ys4 ((SIX.take i).map fun x => ((after pf xs) x).getD (-1))) .nil ?w3v ?w3w
              case w3v =>
                clear F12 N12
                rintro i ys4 v I oI C oC D m₂ h tk E' hlt hint8 hv hC hx F' N' off0 ne
                obtain ⟨x9, u9, rfl, hx9⟩ := txt_at hv
                dsimp only
                (repeat' ((fail_if_success (with_reducible show Hold _)); (fail_if_success (with_reducible show TurnEnd0 _ _ _ _ _ _ _ _ _ _)); first | (k_unfold; (try dsimp only)) | (k_end; first | kc_close | wrow_close) | ((with_reducible show wpAny _ _ (call _ _) _ _ _); (try dsimp only); first | ((with_reducible show wpAny _ _ (call (Value.builtin "dict.get") _) _ _ _); ((try dsimp only [List.nil_append, List.cons_append]); k_dflt (first | (refine dget_title (by k_asm) (by k_mem) (by k_asm) (by k_asm) (by assumption) ?_; intro _) | (refine dget_op (by k_asm) (by k_mem) (by k_asm) (by k_asm) (by assumption) ?_; intro _))))) | ((with_reducible show wpAny _ _ (eval (PySem.Expr.Name _ _) (envOf _ _ _ _ _)) _ _ _); first | k_dflt (refine' ld ?k1 ?k2 ?_; (case k1 => k_asm); (case k2 => exact rfl); k_whole) | (with_unfolding_all refine guard_global (by rfl) ?_; k_dflt (refine' name_K ?kF ?k1 ?k2 ?k3 ?_; (case kF => k_asm); (case k1 => k_asm); (case k2 => k_asm); (case k3 => k_is); k_whole))) | walk1 | (dsimp only; walk1) | (leave1; try dsimp only)))
                unfold Hold
                rename Fr _ _ _ _ => F13
                rename News _ _ _ _ => N13
                refine comp_keep_end F13 N13 (fun p hp => hp) off0 trivial ?_
                rw [take_snoc hx9, List.map_append]
                exact ints_snoc hint8
              case w3w =>
                clear F12 N12
                rintro ys4 hint8
                rw [show SIX.take TXT.size = SIX from rfl] at hint8
                dsimp only
                (repeat' ((fail_if_success (with_reducible show Hold _)); (fail_if_success (with_reducible show TurnEnd0 _ _ _ _ _ _ _ _ _ _)); first | (k_unfold; (try dsimp only)) | (k_end; first | kc_close | wrow_close) | ((with_reducible show wpAny _ _ (compareOp _ _ _) _ _ _); (try dsimp only); first | ((with_reducible show wpAny _ _ (compareOp CmpOp.Eq (Value.ref _) (Value.ref _)) _ _ _); (k_dflt (first | (refine eq_ints (by k_asm) (by k_mem) (by k_mem) (by assumption) (by assumption) (by k_units) ?_) | (refine eq_strs (by assumption) (isList_M (by k_asm) (by k_mem)) (isList_M (by k_asm) (by k_mem)) (by assumption) (by assumption) (by k_units) ?_))))) | ((with_reducible show wpAny _ _ (eval (PySem.Expr.Name _ _) (envOf _ _ _ _ _)) _ _ _); first | k_dflt (refine' ld ?k1 ?k2 ?_; (case k1 => k_asm); (case k2 => exact rfl); k_whole) | (with_unfolding_all refine guard_global (by rfl) ?_; k_dflt (refine' name_K ?kF ?k1 ?k2 ?k3 ?_; (case kF => k_asm); (case k1 => k_asm); (case k2 => k_asm); (case k3 => k_is); k_whole))) | walk1 | (dsimp only; walk1) | (leave1; try dsimp only)))
                refine' hret _ _ _ _ ?q4zp ?q4zf ?q4zn ?q4zk ?q4zr
                case q4zf => k_asm
                case q4zn => k_asm
                case q4zk => refine keep_mut (by k_asm) (by k_asm) hN (by k_asm) ?_; repeat' (first | (with_reducible refine fac ?_ ?_) | (with_reducible exact List.forall_mem_nil _) | ((with_reducible apply Or.inl); tb_rel) | ((with_reducible apply Or.inr); first | tb_rel | k_mem) | (intro p' hp'; refine Or.inr ?_; (repeat (with_reducible apply kfs5)); (repeat (refine List.Mem.tail _ ?_)); first | exact hp' | exact sub_at (by assumption) hp'))
                case q4zr => exact fresh_of (by k_asm) (by k_asm)
                case q4zp =>
                  refine' ⟨rfl, NS.mk _ _ _ _ _ _ _ _ _ _ _ (kvOfD dO6) _ _ _ _ _ _ _ _ _ (after pf xs), ?q4inv, ?q4sub, ?q4mem⟩
                  case q4mem =>
                    dsimp only [NS.heads, List.cons_append, List.nil_append]
                    repeat' (first | (with_reducible refine fac ?_ ?_) | tb_rel | ((with_reducible show _ ∈ _); k_mem) | (intro p' hp'; (repeat (with_reducible apply kfs5)); (repeat (refine List.Mem.tail _ ?_)); exact hp'))
                  case q4sub => first | assumption | exact fun _ h => h
                  case q4inv =>
                    refine' ⟨?q4v1, ?q4v2, ?q4v3, ?q4v4, ?q4v5, ?q4v6, ?q4v7, ?q4v8, ?q4v9, ?q4v10, ?q4v11, ?q4v12, ?q4v13, ?q4v14, ?q4v15, ?q4v16, ?q4v17, ?q4v18, ?q4v19, ?q4v20⟩
                    case q4v1 => assumption
                    case q4v2 => dsimp only [NC.adrs]; assumption
                    case q4v3 => assumption
                    case q4v12 => assumption
                    case q4v5 => assumption
                    case q4v6 => assumption
                    case q4v8 => assumption
                    case q4v10 => assumption
                    case q4v4 => exact hok8
                    case q4v7 => exact tok
                    case q4v9 => exact hsok8
                    case q4v11 => exact hp9
                    case q4v17 => exact Nat.le_trans z6 (by omega)
                    case q4v19 => dsimp only; omega
                    case q4v18 => dsimp only; omega
                    all_goals (dsimp only; omega)
end NX
theorem names_spec {w : World} {c : NC} {M : Nat} {σ : NS} (hc : NCok c) (hI : InvN w c M σ) (hM : M ≤ 500) :
    Spec w 24 989 [.ref c.dk, .ref c.set, .ref c.stt] (σ.heads w c ++ σ.l) c.muts (fun v new => v = .bool true ∧ ∃ σ' : NS, InvN w c (M + 10) σ' ∧ (∀ p ∈ σ.l, p ∈ σ'.l) ∧ ∀ p ∈ σ'.heads w c ++ σ'.l, p ∈ new) :=
  Spec.of fun a => NX.all (NX.eqX ▸ NX.core) ⟨w, M, c, σ, a⟩ hc hI hM
end
/-! ## what `_law_written` keeps -/
structure PC where
  ptd : Addr
  pr : Addr
  fd : Addr
  sto : Addr
  std : Addr
  qa : Tok
  qb : Tok
  qc : Tok
  qe : Tok
  qf : Tok
  s1 : Tok
  s2 : Nat
structure PS where
  k : Int
  kt : Tok
  kn : Nat
  jc : Nat
  tc : Tok
  d : Tok
  nspl : Nat
  nsrl : Nat
  npr : Nat
  bs : List PB
  its : Array Value
  pv : Array Value
  rv : Array Value
  l : Led
  ost : Obj
structure PCok (c : NC) (e : PC) : Prop where
  o1 : @LT.lt Nat _ c.op e.ptd
  o2 : @LT.lt Nat _ e.ptd c.pt
  o3 : @LT.lt Nat _ c.pt e.pr
  o4 : @LT.lt Nat _ e.pr e.std
  o5 : @LT.lt Nat _ e.std e.sto
  o6 : @LT.lt Nat _ e.sto c.stt
  o7 : @LT.lt Nat _ c.sop c.spl
  o8 : @LT.lt Nat _ c.spl c.srl
noncomputable def PS.heads (w : World) (c : NC) (e : PC) (f : Int) (tf : Tok) (π : PS) : Led := [(c.dk, W.listOf #[.ref c.ce, .int π.k π.kt] π.kn), (c.ce, W.listOf c.ws.toArray c.nc), (c.set, instObj 598 c.sd), (c.sd, setObj w c.tab c.ti c.op c.pt f tf c.z), (c.pt, instObj 506 e.ptd), (e.ptd, ptObj w e.pr e.fd (numOf π.jc) e.qa e.qb e.qc π.d e.qe e.qf 4), (e.pr, W.listOf π.its π.npr), (e.sto, instObj 967 e.std), (e.std, stoObj w c.tab e.s1 e.s2), (c.stt, π.ost), (c.spl, W.listOf π.pv π.nspl), (c.srl, W.listOf π.rv π.nsrl)]
def PC.adrs (c : NC) (e : PC) : List Addr := [c.dk, c.ce, c.set, c.sd, c.pt, e.ptd, e.pr, e.sto, e.std, c.stt, c.spl, c.srl]
structure InvP (w : World) (c : NC) (e : PC) (M : Nat) (f : Int) (sf : Tok) (π : PS) : Prop where
  port : PortT w π.bs π.its π.pv π.rv π.l
  off : OwnOff π.l (PC.adrs c e)
  even : Even M π.bs
  jcl : π.jc < π.bs.length
  bsz : π.bs.length ≤ M + 1
  dst : π.ost.IsDictOf (SK w) (stKV c.sy c.sti c.sop c.spl c.srl f sf (π.jc : Int) π.tc)
  k0 : 0 ≤ π.k
  k1 : π.k ≤ (M : Int)
theorem Even.len {M n : Nat} {bs : List PB} {j : Nat} {b : PB} (h : Even M bs) (hj : bs[j]? = some b) (hM : M ≤ n) : b.ks.length ≤ n := Nat.le_trans (h b (List.mem_of_getElem? hj)).2.1 hM
theorem Even.same {M : Nat} {bs : List PB} {j : Nat} {b : PB} (h : Even M bs) (hj : bs[j]? = some b) : b.ks = b.rs := (h b (List.mem_of_getElem? hj)).1
theorem Even.bnd {M : Nat} {bs : List PB} {j : Nat} {b : PB} (h : Even M bs) (hj : bs[j]? = some b) : ∀ n ∈ b.ks, 0 ≤ n ∧ n ≤ 1000 := (h b (List.mem_of_getElem? hj)).2.2
theorem Even.ints {M : Nat} {bs : List PB} {j : Nat} {b : PB} (h : Even M bs) (hj : bs[j]? = some b) (hi : IntsAre b.ls b.rs) : IntsAre b.ls b.ks := by rw [h.same hj]; exact hi
theorem Even.put2 {M : Nat} {bs : List PB} {j : Nat} {b r r2 : PB} {x : Int} (h : Even M bs) (hj : bs[j]? = some b) (e1 : r.ks = b.ks ++ [x]) (e2 : r.rs = b.rs) (e3 : r2.ks = r.ks) (e4 : r2.rs = r.rs ++ [x]) (hx : 0 ≤ x ∧ x ≤ 1000) : Even (M + 1) ((bs.set j r).set j r2) := by
  rw [List.set_set]
  refine Even.set h ?_ ?_ ?_
  · rw [e3, e4, e1, e2, h.same hj]
  · rw [e3, e1, List.length_append, List.length_singleton]; exact Nat.succ_le_succ (h.len hj (Nat.le_refl _))
  · rw [e3, e1]
    intro n hn
    rcases List.mem_append.mp hn with hn | hn
    · exact h.bnd hj n hn
    · rw [List.mem_singleton.mp hn]; exact hx
theorem Even.more {M : Nat} {bs : List PB} {b : PB} (h : Even M bs) (h1 : b.ks = []) (h2 : b.rs = []) : Even (M + 1) (bs ++ [b]) := fun d hd => by
  rcases List.mem_append.mp hd with hd | hd
  · exact h.mono (Nat.le_succ _) d hd
  · rw [List.mem_singleton.mp hd, h1, h2]; exact ⟨rfl, Nat.zero_le _, fun _ hn => nomatch hn⟩
theorem rs_len {r b k : List Int} (h : k.length ≤ 900) (hb : k = b) (e2 : r = b) : r.length ≤ 1000 := by rw [e2, ← hb]; exact Nat.le_trans h (by decide)
theorem OwnOff.add {l news : Led} {FX : List Addr} {a : Addr} {o : Obj} (h : OwnOff l FX) (hn : ∀ p ∈ news, p.1 ≠ a) (hFX : ∀ b ∈ FX, ∃ o, (b, o) ∈ news) : OwnOff ((a, o) :: l) FX := fun p hp b hb => by
  rcases List.mem_cons.mp hp with rfl | hp
  · obtain ⟨o, ho⟩ := hFX b hb
    exact Ne.symm (hn _ ho)
  · exact h p hp b hb
theorem nodup6 {ra rd pa pd ca la : Addr} (h : (@LT.lt Nat _ ca pd) ∧ (@LT.lt Nat _ pd pa) ∧ (@LT.lt Nat _ pa rd) ∧ (@LT.lt Nat _ rd ra)) (hl : @LT.lt Nat _ ra la) : ([ra, rd, pa, pd, ca, la] : List Addr).Nodup := by
  have h0 : ∀ a b : Nat, a < b → a ≠ b := fun _ _ => Nat.ne_of_lt
  have h1 : ([ra, rd, pa, pd, ca, la] : List Nat).Nodup := by
    simp only [List.nodup_cons, List.mem_cons, List.not_mem_nil, or_false, not_or, List.nodup_nil, and_true, not_false_eq_true]
    refine ⟨⟨?_, ?_, ?_, ?_, ?_⟩, ⟨?_, ?_, ?_, ?_⟩, ⟨?_, ?_, ?_⟩, ⟨?_, ?_⟩, ?_⟩ <;> omega
  exact h1
theorem tail_adr {l : Led} {p : Addr × Obj} (h : p ∈ l) : p.1 ∈ l.map (·.1) := List.mem_map.mpr ⟨p, h, rfl⟩
def JoinMark : Prop := True
def JoinQ (Mid : Shared → Prop) (f : Flow) (s : Shared) : Prop := f = .next ∧ Mid s
def MidW (w : World) (c : NC) (e : PC) (M : Nat) (f : Int) (tf sf : Tok) (g : Heap) (L : Addr) (m : Str → Option Value) (s s' : Shared) : Prop :=
  ∃ h' tk' π, s' = { s with heap := h', toks := tk' } ∧ InvP w c e M f sf π ∧ Fr g L h' m ∧ News g L h' (PS.heads w c e f tf π ++ π.l)
theorem join_at {w : World} {c : NC} {e : PC} {M : Nat} {f : Int} {tf sf : Tok} {g : Heap} {L : Addr} {m : Str → Option Value} {prog : Program} {A : Around} {t : Sem Flow} {E : Value → Shared → Prop} {s : Shared} {K : Flow → Shared → Prop}
    (_ : NCok c) (_ : PCok c e) (_ : Fr g L s.heap m)
    (h : wpAny (model prog w) A t (JoinQ (MidW w c e M f tf sf g L m s)) E s)
    (k : ∀ h' tk' π, InvP w c e M f sf π → Fr g L h' m → News g L h' (PS.heads w c e f tf π ++ π.l) → K .next { s with heap := h', toks := tk' }) :
    wpAny (model prog w) A t K E s :=
  wpAny_mono h (fun fl s' ⟨e1, h', tk', π, e2, i, F, N⟩ => by subst e1 e2; exact k h' tk' π i F N) fun _ _ e => e
theorem map_end2 {m : Str → Option Value} {x y : Str} {u v u' v' : Option Value} : (fun z => if z = y then v' else (fun z => if z = x then u' else (fun z => if z = x then u else if z = y then v else m z) z) z) = fun z => if z = x then (if x = y then v' else u') else if z = y then v' else m z := by
  funext z
  by_cases h : z = y
  · subst h
    by_cases h2 : z = x
    · subst h2; simp
    · simp [h2]
  · by_cases h2 : z = x
    · subst h2; simp [h]
    · simp [h, h2]
theorem map_start2 (m : Str → Option Value) (x y : Str) : m = fun z => if z = x then m x else if z = y then m y else m z := by
  funext z
  by_cases h : z = x
  · subst h; simp
  · by_cases h2 : z = y
    · subst h2; simp [h]
    · simp [h, h2]
theorem five {k : Int} (h0 : 0 ≤ k) (h1 : k < 5) : k = 0 ∨ k = 1 ∨ k = 2 ∨ k = 3 ∨ k = 4 := by omega
theorem posp {k : Int} (h0 : 0 ≤ k) : k = 0 ∨ 0 < k := by omega
/-- the ledger of a loop whose turns leave it, its own two names aside -/
def JK (L : Led) (x y : Str) (m : Str → Option Value) (_ : Nat) (m₁ : Str → Option Value) (nx : Led) : Prop := nx = L ∧ ∃ u v, m₁ = fun z => if z = x then u else if z = y then v else m z
theorem JK.zero {L : Led} {x y : Str} {m : Str → Option Value} : JK L x y m 0 m L := ⟨rfl, _, _, map_start2 m x y⟩
theorem turn_start2 {m : Str → Option Value} {x y : Str} {u v u' : Option Value} : (fun z => if z = x then u' else (fun z => if z = x then u else if z = y then v else m z) z) = fun z => if z = x then u' else if z = y then v else m z := by
  funext z
  by_cases h : z = x
  · subst h; simp
  · simp [h]
theorem turn_nextJ {h₀ h' : Heap} {L I : Addr} {oI : Obj} {Ld all : Led} {x y : Str} {m mt : Str → Option Value} {i : Nat} {s₁ : Shared} {Q : Flow → Shared → Prop} {tk : Nat} (F : Fr h₀ L h' mt) (N : News h₀ L h' all) (off : ∀ p ∈ Ld, p.1 ≠ I) (hm : ∃ u v, mt = fun z => if z = x then u else if z = y then v else m z) (hs : ∀ p ∈ (I, oI) :: Ld, p ∈ all) :
    TurnEnd h₀ L I oI (JK Ld x y m i) s₁ Q .next { s₁ with heap := h', toks := tk } := ⟨h', tk, mt, Ld, rfl, F, News.sub N hs, off, rfl, hm⟩
theorem eq_str_of {prog : Program} {w : World} {A : Around} {E Q : Value → Shared → Prop} {s : Shared} {x y : Str} {t u : Tok} (e : x = y) (h : Q (.bool true) s) : wpAny (model prog w) A (compareOp .Eq (.str x t) (.str y u)) Q E s := by
  subst e
  refine PySem.P.eq_str ?_
  rw [beq_self_eq_true]; exact h
theorem cur_set {w : World} {o : Obj} {sy sti sop spl srl : Addr} {f k : Int} {sf t : Tok} {j : Nat} (h : o.IsDictOf (SK w) (stKV sy sti sop spl srl f sf k t)) (e : k - 1 = (j : Int)) : o.IsDictOf (SK w) (stKV sy sti sop spl srl f sf ((j + 1 : Nat) : Int) t) := by
  have : k = ((j + 1 : Nat) : Int) := by omega
  rw [← this]; exact h
def NEWP (r : OR) (la : Addr) (nl : Nat) : PB := ⟨r.ra, r.rd, r.pa, r.pd, r.ca, la, r.a2, r.a3, r.b1, r.b2, r.b3, r.n3, r.n4, r.nc, nl, [], [], [], []⟩
noncomputable def newL (w : World) (r : OR) (la : Addr) (nl : Nat) (its : Array Value) (l : Led) : Led := (r.ra, instObj 212 r.rd) :: (r.rd, refObj w (its.size : Int) r.a2 r.a3 r.n3) :: (r.pa, instObj 422 r.pd) :: (r.pd, portObj w r.ca r.b1 r.b2 r.b3 r.n4) :: (r.ca, W.listOf #[] r.nc) :: (la, W.listOf #[] nl) :: l
theorem way0_inv {w : World} {bs : List PB} {its pv rv : Array Value} {l N0 N1 : Led} {FX : List Addr} {r : OR} {la : Addr} {nl : Nat} {o : Obj} (P : PortT w bs its pv rv l) (O : OwnOff l FX)
    (hlt : (@LT.lt Nat _ r.ca r.pd) ∧ (@LT.lt Nat _ r.pd r.pa) ∧ (@LT.lt Nat _ r.pa r.rd) ∧ (@LT.lt Nat _ r.rd r.ra))
    (h1 : ∀ p ∈ N0, p.1 ≠ r.ra) (h2 : ∀ p ∈ N0, p.1 ≠ r.rd) (h3 : ∀ p ∈ N0, p.1 ≠ r.pa) (h4 : ∀ p ∈ N0, p.1 ≠ r.pd) (h5 : ∀ p ∈ N0, p.1 ≠ r.ca)
    (lL : ∀ p ∈ N1, p.1 < la) (hs : ∀ p ∈ l, p ∈ N0) (hF : ∀ b ∈ FX, ∃ o, (b, o) ∈ N0) (hs1 : ∀ p ∈ l, p ∈ N1) (hF1 : ∀ b ∈ FX, ∃ o, (b, o) ∈ N1) (hra : (r.ra, o) ∈ N1) :
    PortT w (bs ++ [NEWP r la nl]) (its.push (.ref r.pa)) (pv.push (.ref r.ra)) (rv.push (.ref la)) (newL w r la nl its l) ∧ OwnOff (newL w r la nl its l) FX := by
  have hl : @LT.lt Nat _ r.ra la := lL _ hra
  have hla : ∀ p ∈ l, p.1 ≠ la := fun p hp => Nat.ne_of_lt (lL p (hs1 p hp))
  refine ⟨P.more (nodup6 hlt hl) ?_, ?_⟩
  · intro a ha p hp
    simp only [List.mem_cons, List.not_mem_nil, or_false] at ha
    rcases ha with rfl | rfl | rfl | rfl | rfl | rfl
    · exact h1 p (hs p hp)
    · exact h2 p (hs p hp)
    · exact h3 p (hs p hp)
    · exact h4 p (hs p hp)
    · exact h5 p (hs p hp)
    · exact hla p hp
  · refine OwnOff.add (OwnOff.add (OwnOff.add (OwnOff.add (OwnOff.add (OwnOff.add O (fun p hp => Nat.ne_of_lt (lL p hp)) hF1) h5 hF) h4 hF) h3 hF) h2 hF) h1 hF
theorem ints_len {vs : List Value} {ns : List Int} (hi : IntsAre vs ns) (h : ns.length ≤ 900) : vs.length ≤ 1000 := by have := IntsAre.len hi; omega
theorem map_end3 {m : Str → Option Value} {x y : Str} {u' v v' : Option Value} : (fun z => if z = y then v' else if z = x then u' else if z = y then v else m z) = fun z => if z = x then (if x = y then v' else u') else if z = y then v' else m z := by
  funext z
  by_cases h : z = y
  · subst h
    by_cases h2 : z = x
    · subst h2; simp
    · simp [h2]
  · by_cases h2 : z = x
    · subst h2; simp [h]
    · simp [h, h2]

local macro_rules | `(tactic| k_mem) => `(tactic| first | tb_rel | ((repeat (with_reducible apply kfs5)); (repeat (with_reducible apply mt)); with_reducible assumption))
local macro_rules | `(tactic| k_all) => `(tactic| first | exact lt_all (by with_reducible assumption) (by (intro p' hp'; (repeat (with_reducible apply kfs5)); (repeat (with_reducible apply mt)); exact hp')) | exact lt_all1 (by with_reducible assumption) (by (intro p' hp'; (repeat (with_reducible apply kfs5)); (repeat (with_reducible apply mt)); exact hp')) | exact ne_tail (by with_reducible assumption) (by (intro p' hp'; (repeat (with_reducible apply kfs5)); (repeat (with_reducible apply mt)); exact hp')))
local macro_rules | `(tactic| walk_at "kq4") => `(tactic| (intro j' b' hj' hb' q1' q2' q3' q4' q5' q6' q7' q8'; (have hke' := Even.same (by with_reducible assumption) hb'); (have hkz' := Even.len (n := 900) (by with_reducible assumption) hb' (by omega))))
local macro_rules | `(tactic| walk_at "kqd") => `(tactic| ((rename News _ _ _ _ => N'); (replace N' := News.sub N' (l' := (_, W.listOf #[Value.ref _, Value.int _ _] _) :: _) (by intro p' hp'; (repeat (first | (with_reducible exact hp') | (with_reducible apply mt)))))))
local macro_rules | `(tactic| walk_at "kqh") => `(tactic| ((have hla' := (PortT.row (by with_reducible assumption) _ _ (by with_reducible assumption)).i4)))
section
local macro_rules | `(tactic| walk_at "CompSrc") => `(tactic| refine hold ?_)
local macro_rules | `(tactic| walk_at "CompEnd") => `(tactic| refine hold ?_)
local macro_rules | `(tactic| walk_at "CompGen") => `(tactic| refine hold ?_)

structure WXT where
  w : World
  M : Nat
  f : Int
  tf : Tok
  sf : Tok
  c : NC
  e : PC
  π : PS
  a : SA
namespace WX
def P (x : WXT) : Prop := NCok x.c → PCok x.c x.e → InvP x.w x.c x.e x.M x.f x.sf x.π → x.M ≤ 400 → SpecA x.w 24 994 [.ref x.c.dk, .ref x.c.set, .ref x.e.sto, .ref x.c.stt] (x.π.heads x.w x.c x.e x.f x.tf ++ x.π.l) ([x.c.dk, x.e.ptd, x.e.pr, x.c.stt, x.c.spl, x.c.srl] ++ x.π.l.map (·.1)) (fun v new => v = .bool true ∧ ∃ π' : PS, InvP x.w x.c x.e (x.M + 10) x.f x.sf π' ∧ ∀ p ∈ π'.heads x.w x.c x.e x.f x.tf ++ π'.l, p ∈ new) x.a
@[irreducible] noncomputable def X : WXT := @Classical.epsilon _ ⟨⟨⟨fun _ _ => 0, { strHash := fun _ => 0, shareClass := fun _ => 0, mergeTok := id, idOf := fun _ => 0, idOfShared := fun _ _ => 0, followText := fun _ => false, idOfImm := fun _ => 0 }⟩, 0, 0, 0, 0, ⟨0, 0, 0, 0, 0, 0, 0, 0, 0, 0, 0, 0, 0, 0, 0, 0, 0, [], [], 0, ⟨0,0,0,0,0,0,0,0,0,0,0⟩, 0, 0, 0, 0, 0⟩, ⟨0, 0, 0, 0, 0, 0, 0, 0, 0, 0, 0, 0⟩, ⟨0, 0, 0, 0, 0, 0, 0, 0, 0, [], #[], #[], #[], [], (W.listOf #[] 0)⟩, junkA⟩⟩ fun x => ¬ P x
theorem all (h : P X) (x : WXT) : P x := Classical.byContradiction fun n => by
  unfold X at h
  exact absurd h (Classical.epsilon_spec (p := fun x => ¬ P x) ⟨x, n⟩)
@[irreducible] noncomputable def w : World := X.w
@[irreducible] noncomputable def M : Nat := X.M
@[irreducible] noncomputable def f : Int := X.f
@[irreducible] noncomputable def tf : Tok := X.tf
@[irreducible] noncomputable def sf : Tok := X.sf
@[irreducible] noncomputable def dk : Addr := X.c.dk
@[irreducible] noncomputable def ce : Addr := X.c.ce
@[irreducible] noncomputable def set : Addr := X.c.set
@[irreducible] noncomputable def sd : Addr := X.c.sd
@[irreducible] noncomputable def tab : Addr := X.c.tab
@[irreducible] noncomputable def dt : Addr := X.c.dt
@[irreducible] noncomputable def rl : Addr := X.c.rl
@[irreducible] noncomputable def bd : Addr := X.c.bd
@[irreducible] noncomputable def ti : Addr := X.c.ti
@[irreducible] noncomputable def op : Addr := X.c.op
@[irreducible] noncomputable def pt : Addr := X.c.pt
@[irreducible] noncomputable def stt : Addr := X.c.stt
@[irreducible] noncomputable def sy : Addr := X.c.sy
@[irreducible] noncomputable def sti : Addr := X.c.sti
@[irreducible] noncomputable def sop : Addr := X.c.sop
@[irreducible] noncomputable def spl : Addr := X.c.spl
@[irreducible] noncomputable def srl : Addr := X.c.srl
@[irreducible] noncomputable def ws : List Value := X.c.ws
@[irreducible] noncomputable def ns : List Int := X.c.ns
@[irreducible] noncomputable def nc : Nat := X.c.nc
@[irreducible] noncomputable def z : SZ := X.c.z
@[irreducible] noncomputable def ta : Tok := X.c.ta
@[irreducible] noncomputable def tb : Tok := X.c.tb
@[irreducible] noncomputable def n : Nat := X.c.n
@[irreducible] noncomputable def cur : Int := X.c.cur
@[irreducible] noncomputable def tc : Tok := X.c.tc
@[irreducible] noncomputable def ptd : Addr := X.e.ptd
@[irreducible] noncomputable def pr : Addr := X.e.pr
@[irreducible] noncomputable def fd : Addr := X.e.fd
@[irreducible] noncomputable def sto : Addr := X.e.sto
@[irreducible] noncomputable def std : Addr := X.e.std
@[irreducible] noncomputable def qa : Tok := X.e.qa
@[irreducible] noncomputable def qb : Tok := X.e.qb
@[irreducible] noncomputable def qc : Tok := X.e.qc
@[irreducible] noncomputable def qe : Tok := X.e.qe
@[irreducible] noncomputable def qf : Tok := X.e.qf
@[irreducible] noncomputable def s1 : Tok := X.e.s1
@[irreducible] noncomputable def s2 : Nat := X.e.s2
@[irreducible] noncomputable def k : Int := X.π.k
@[irreducible] noncomputable def kt : Tok := X.π.kt
@[irreducible] noncomputable def kn : Nat := X.π.kn
@[irreducible] noncomputable def jc : Nat := X.π.jc
@[irreducible] noncomputable def tc' : Tok := X.π.tc
@[irreducible] noncomputable def d : Tok := X.π.d
@[irreducible] noncomputable def nspl : Nat := X.π.nspl
@[irreducible] noncomputable def nsrl : Nat := X.π.nsrl
@[irreducible] noncomputable def npr : Nat := X.π.npr
@[irreducible] noncomputable def bs : List PB := X.π.bs
@[irreducible] noncomputable def its : Array Value := X.π.its
@[irreducible] noncomputable def pv : Array Value := X.π.pv
@[irreducible] noncomputable def rv : Array Value := X.π.rv
@[irreducible] noncomputable def l : Led := X.π.l
@[irreducible] noncomputable def ost : Obj := X.π.ost
@[irreducible] noncomputable def dp : Nat := X.a.dp
@[irreducible] noncomputable def un : Nat := X.a.un
@[irreducible] noncomputable def gd : Option (List Code) := X.a.gd
@[irreducible] noncomputable def env : Env := X.a.env
@[irreducible] noncomputable def outer : List Env := X.a.outer
@[irreducible] noncomputable def A₀ : Around := X.a.A₀
@[irreducible] noncomputable def base : Heap := X.a.base
@[irreducible] noncomputable def h₀ : Heap := X.a.h₀
@[irreducible] noncomputable def L : Addr := X.a.L
@[irreducible] noncomputable def m : Str → Option Value := X.a.m
@[irreducible] noncomputable def mean : ExcName → Option Value := X.a.mean
@[irreducible] noncomputable def mg : Str → Option Value := X.a.mg
@[irreducible] noncomputable def mb : Str → Option Value := X.a.mb
@[irreducible] noncomputable def s : Shared := X.a.s
@[irreducible] noncomputable def Q : Value → Shared → Prop := X.a.Q
@[irreducible] noncomputable def E : Value → Shared → Prop := X.a.E
theorem eqX : (⟨w, M, f, tf, sf, ⟨dk, ce, set, sd, tab, dt, rl, bd, ti, op, pt, stt, sy, sti, sop, spl, srl, ws, ns, nc, z, ta, tb, n, cur, tc⟩, ⟨ptd, pr, fd, sto, std, qa, qb, qc, qe, qf, s1, s2⟩, ⟨k, kt, kn, jc, tc', d, nspl, nsrl, npr, bs, its, pv, rv, l, ost⟩, ⟨dp, un, gd, env, outer, A₀, base, h₀, L, m, mean, mg, mb, s, Q, E⟩⟩ : WXT) = X := by
  delta w M f tf sf dk ce set sd tab dt rl bd ti op pt stt sy sti sop spl srl ws ns nc z ta tb n cur tc ptd pr fd sto std qa qb qc qe qf s1 s2 k kt kn jc tc' d nspl nsrl npr bs its pv rv l ost dp un gd env outer A₀ base h₀ L m mean mg mb s Q E
  rfl
set_option maxHeartbeats 40000000 in
theorem core : P ⟨w, M, f, tf, sf, ⟨dk, ce, set, sd, tab, dt, rl, bd, ti, op, pt, stt, sy, sti, sop, spl, srl, ws, ns, nc, z, ta, tb, n, cur, tc⟩, ⟨ptd, pr, fd, sto, std, qa, qb, qc, qe, qf, s1, s2⟩, ⟨k, kt, kn, jc, tc', d, nspl, nsrl, npr, bs, its, pv, rv, l, ost⟩, ⟨dp, un, gd, env, outer, A₀, base, h₀, L, m, mean, mg, mb, s, Q, E⟩⟩ := by
  unfold P SpecA
  intro hc he hI hM hB hF hK hN hT hfr hkd hdd hu hret
  have hc' := hc
  have he' := he
  obtain ⟨hi, hlo, hhi, hb, c0, c1, c2, c3, c4, c5, c6, c7, c8, c9, c10, c11, c12, lo1, lo2, lo3, lo4, lo5, lo6, lo7⟩ := hc
  obtain ⟨o1, o2, o3, o4, o5, o6, o7, o8⟩ := he
  obtain ⟨port, off, even, jcl, bsz, dst, k0, k1⟩ := hI
  dsimp only [PS.heads, PC.adrs, List.cons_append, List.nil_append] at *
  obtain ⟨bc, hbc⟩ := getElem?_of_lt jcl
  have hbc4 := (port.row jc bc hbc).i4
  have hbc3 := (port.row jc bc hbc).i3
  have hkz : bc.ks.length ≤ 900 := even.len hbc (by omega)
  have hke := even.same hbc
  have zpv := port.spv
  have zits := port.sits
  have zrv := port.srv
  have lo4' := lo4
  have hpv : pv.size ≤ 1000 := by omega
  have hrv : rv.size ≤ 1001 := by omega
  have hplv : its.size ≤ 1000 := by omega
  w_on
  refine wpAny_call ?_
  k_dflt k_enter
  rename_i gF LF hF0 tkF FGF FF NF BF XF TF GF
  have hsd : SD [ce, dk, sd, set, ptd, pt, pr, std, sto, stt, spl, srl] := SD.more c0 (SD.more c1 (SD.more c2 (SD.more (Nat.lt_trans c3 (Nat.lt_trans c4 (Nat.lt_trans c5 (Nat.lt_trans c6 (Nat.lt_trans c7 (Nat.lt_trans c8 o1)))))) (SD.more o2 (SD.more o3 (SD.more o4 (SD.more o5 (SD.more o6 (SD.more (Nat.lt_trans c10 (Nat.lt_trans c11 (Nat.lt_trans c12 o7))) (SD.more o8 SD.one))))))))))
  (repeat' ((fail_if_success (with_reducible show Hold _)); (fail_if_success (with_reducible show JoinQ _ _ _)); (fail_if_success (with_reducible show TurnEnd _ _ _ _ _ _ _ _ _)); first | (k_unfold; (try dsimp only)) | (k_end; first | kc_close | wrow_close) | ((with_reducible show wpAny _ _ (call _ _) _ _ _); (try dsimp only); first | ((with_reducible show wpAny _ _ (call (Value.ref 984) _) _ _ _); k_dflt (refine' draw_use ?kB ?kF ?kX ?kN ?kT ?kf ?kk ?kd ?ku ?zm1 ?zm2 ?zhi ?zhlo ?zhhi ?zhb ?zhk0 ?zhk1 ?zhm0 ?zhm1 ?zhne ?zR ?_; (case kB => k_asm); (case kF => k_asm); (case kX => k_asm); (case kN => k_asm); (case kT => k_asm); (case kf => first | exact rfl | assumption); (case kk => first | exact rfl | assumption); (case kd => k_room); (case ku => k_units); (case zm1 => k_mem); (case zm2 => k_mem); (case zhi => assumption); (case zhlo => assumption); (case zhhi => assumption); (case zhb => assumption); (case zhk0 => (first | assumption | omega)); (case zhk1 => (first | assumption | omega)); (case zhm0 => (first | assumption | omega | decide)); (case zhm1 => (first | assumption | omega | decide)); (case zhne => (first | assumption | omega)); (case zR => k_updF); k_whole); intro _ _ _ _ _ _ _ _ _; (try dsimp only); (try k_sweep)) | ((with_reducible show wpAny _ _ (call (Value.builtin "len") [Value.ref _]) _ _ _); k_dflt (refine' len_M ?k1 ?k2 ?k3 ?_; (case k1 => k_asm); (case k2 => k_mem); (case k3 => first | assumption | (simp only [Array.size_push]; omega)); k_whole); (try dsimp only))) | ((with_reducible show wpAny _ _ (subscriptTail _ _ _ _) _ _ _); (try dsimp only); first | ((with_reducible show wpAny _ _ (subscriptTail _ _ (Value.ref _) (Value.int _ _)) _ _ _); k_dflt (refine' menu4 ?k1 ?k2 ?k4 ?k5 ?_ ?k6; (case k1 => k_asm); (case k2 => k_mem); (case k4 => omega); (case k5 => omega); (case k6 => with_unfolding_all rfl); k_whole); intro _ _ _ _)) | ((with_reducible show wpAny _ _ (exec (PySem.Stmt.If _ _ _ _) _) _ _ _); ((fail_if_success (have jm : JoinMark := by with_reducible assumption)); refine hold ?_)) | ((with_reducible show wpAny _ _ (eval (PySem.Expr.Name _ _) (envOf _ _ _ _ _)) _ _ _); first | k_dflt (refine' ld ?k1 ?k2 ?_; (case k1 => k_asm); (case k2 => exact rfl); k_whole) | (with_unfolding_all refine guard_global (by rfl) ?_; k_dflt (refine' name_K ?kF ?k1 ?k2 ?k3 ?_; (case kF => k_asm); (case k1 => k_asm); (case k2 => k_asm); (case k3 => k_is); k_whole))) | walk1 | (dsimp only; walk1) | (leave1; try dsimp only)))
  unfold Hold
  have jm : JoinMark := trivial
  rename_i ra0 way ta0 ha0 tka0 way0 way5 menu hm0 lm0 rb0 ib0 tb0 hb0 tkb0 ib1 ib4 code tc0 code0 code1 pair hp0 lp0 hh1 hh2 hh3 tkx rx pn tp0 hpp tkp port0 port1 hfin F1 N1
  obtain ⟨k3, kt3, kn3, hk30, hk31, N2⟩ : ∃ (k3 : Int) (kt3 : Tok) (kn3 : Nat), 0 ≤ k3 ∧ k3 ≤ (M : Int) + 4 ∧ News gF LF hfin ((dk, W.listOf #[Value.ref ce, Value.int k3 kt3] kn3) :: (ce, W.listOf ws.toArray nc) :: (set, instObj 598 sd) :: (sd, setObj w tab ti op pt f tf z) :: (pt, instObj 506 ptd) :: (ptd, ptObj w pr fd (numOf jc) qa qb qc d qe qf 4) :: (pr, W.listOf its npr) :: (sto, instObj 967 std) :: (std, stoObj w tab s1 s2) :: (stt, ost) :: (spl, W.listOf pv nspl) :: (srl, W.listOf rv nsrl) :: l) := ⟨k + 1 + 1 + 1, _, _, by omega, by omega, News.sub N1 (by repeat' (first | (with_reducible refine fac ?_ ?_) | tb_rel | ((with_reducible show _ ∈ _); k_memK) | (intro p' hp'; (repeat (with_reducible apply kfs5)); (repeat (with_reducible apply mt)); exact hp')))⟩
  clear N1
  refine join_at (M := M + 4) (f := f) (tf := tf) (sf := sf) hc' he' F1 ?ways ?rest
  case ways =>
    rcases five way0 way5 with rfl | rfl | rfl | rfl | rfl
    · (repeat' ((fail_if_success (with_reducible show Hold _)); (fail_if_success (with_reducible show JoinQ _ _ _)); (fail_if_success (with_reducible show TurnEnd _ _ _ _ _ _ _ _ _)); first | (k_unfold; (try dsimp only)) | (k_end; first | kc_close | wrow_close) | ((with_reducible show wpAny _ _ (call _ _) _ _ _); (try dsimp only); first | ((with_reducible show wpAny _ _ (call (Value.ref 552) _) _ _ _); k_dflt (refine' openT ?kB ?kF ?kX ?kN ?kT ?kf ?kk ?kd ?ku ?zm1 ?zm2 ?zset ?zm3 ?zm4 ?zm5 ?zm6 ?zm7 ?zm8 ?zits ?ze0 ?ze1 ?ze2 ?ze3 ?ze4 ?ze5 ?ze8 ?zR ?_; (case kB => k_asm); (case kF => k_asm); (case kX => k_asm); (case kN => k_asm); (case kT => k_asm); (case kf => first | exact rfl | assumption); (case kk => first | exact rfl | assumption); (case kd => k_room); (case ku => k_units); (case zm1 => k_mem); (case zm2 => k_mem); (case zset => k_get); (case zm3 => k_mem); (case zm4 => k_mem); (case zm5 => k_mem); (case zm6 => k_mem); (case zm7 => k_mem); (case zm8 => k_mem); (case zits => omega); (case ze0 => k_ne); (case ze1 => k_ne); (case ze2 => k_ne); (case ze3 => k_ne); (case ze4 => k_ne); (case ze5 => k_ne); (case ze8 => k_ne); (case zR => k_updF); k_whole); intro _ _ _ _ _ _ _ _ _ _ _; (try dsimp only); (try k_sweep)) | ((try dsimp only [List.nil_append, List.cons_append]); (with_reducible show wpAny _ _ (call (Value.builtin "list.append") [Value.ref _, _]) _ _ _); k_dflt (refine' append_M ?k1 ?k2 ?k3 ?z ?_; (case k1 => k_asm); (case k2 => k_asm); (case k3 => k_upd); (case z => first | assumption | omega); k_whole); intros; (try k_sweep))) | ((with_reducible show wpAny _ _ (eval (PySem.Expr.Name _ _) (envOf _ _ _ _ _)) _ _ _); first | k_dflt (refine' ld ?k1 ?k2 ?_; (case k1 => k_asm); (case k2 => exact rfl); k_whole) | (with_unfolding_all refine guard_global (by rfl) ?_; k_dflt (refine' name_K ?kF ?k1 ?k2 ?k3 ?_; (case kF => k_asm); (case k1 => k_asm); (case k2 => k_asm); (case k3 => k_is); k_whole))) | walk1 | (dsimp only; walk1) | (leave1; try dsimp only)))
      rename Fr _ _ _ _ => F5
      rename News _ _ _ _ => N5
      rename_i la hl5 lL h6
      rename OR => r5
      have q := way0_inv (nl := 0) port off (r := r5) (by with_reducible assumption) (by with_reducible assumption) (by with_reducible assumption) (by with_reducible assumption) (by with_reducible assumption) (by with_reducible assumption) lL (by (intro p' hp'; (repeat (with_reducible apply kfs5)); (repeat (with_reducible apply mt)); exact hp')) (by (repeat' (first | exact List.forall_mem_nil _ | (refine List.forall_mem_cons.mpr ⟨⟨_, by k_memK⟩, ?_⟩)))) (by (intro p' hp'; (repeat (with_reducible apply kfs5)); (repeat (with_reducible apply mt)); exact hp')) (by (repeat' (first | exact List.forall_mem_nil _ | (refine List.forall_mem_cons.mpr ⟨⟨_, by k_memK⟩, ?_⟩)))) (by k_memK)
      unfold JoinQ MidW
      refine' ⟨rfl, _, _, PS.mk k3 kt3 kn3 jc tc' d _ _ _ _ _ _ _ _ ost, rfl, ⟨q.1, q.2, ?w0e, ?w0j, ?w0b, dst, hk30, ?w0k⟩, F5, ?w0N⟩
      case w0N =>
        dsimp only [PS.heads, newL, List.cons_append, List.nil_append]
        exact News.sub N5 (by repeat' (first | (with_reducible refine fac ?_ ?_) | tb_rel | ((with_reducible show _ ∈ _); k_memK) | (intro p' hp'; (repeat (with_reducible apply kfs5)); (repeat (with_reducible apply mt)); exact hp')))
      case w0e => dsimp only; exact Even.mono (Even.more even rfl rfl) (by omega)
      case w0j => dsimp only; (simp only [List.length_append, List.length_singleton]; omega)
      case w0b => dsimp only; (simp only [List.length_append, List.length_singleton]; omega)
      case w0k => dsimp only; omega
    · rcases posp port0 with rfl | hpos
      · (repeat' ((fail_if_success (with_reducible show Hold _)); (fail_if_success (with_reducible show JoinQ _ _ _)); (fail_if_success (with_reducible show TurnEnd _ _ _ _ _ _ _ _ _)); first | (k_unfold; (try dsimp only)) | (k_end; first | kc_close | wrow_close) | ((with_reducible show wpAny _ _ (call _ _) _ _ _); (try dsimp only); first | ((with_reducible show wpAny _ _ (call (Value.ref 573) _) _ _ _); k_dflt (refine' wcharT ?kB ?kF ?kX ?kN ?kT ?kf ?kk ?kd ?ku ?zm1 ?zm2 ?zset ?zm3 ?zm4 ?zm5 ?zm6 ?zm7 ?zm8 ?zm9 ?zm10 ?zP ?zj ?zz ?zits ?ze8 ?ze9 ?ze10 ?zo ?zs4 ?zl ?zFY ?zR ?_; (case kB => k_asm); (case kF => k_asm); (case kX => k_asm); (case kN => k_asm); (case kT => k_asm); (case kf => first | exact rfl | assumption); (case kk => first | exact rfl | assumption); (case kd => k_room); (case ku => k_units); (case zm1 => k_mem); (case zm2 => k_mem); (case zset => k_get); (case zm3 => k_mem); (case zm4 => k_mem); (case zm5 => k_mem); (case zm6 => k_mem); (case zm7 => k_mem); (case zm8 => k_mem); (case zm9 => k_mem); (case zm10 => k_mem); (case zP => assumption); (case zj => assumption); (case zz => (first | with_reducible assumption | exact Even.len (by assumption) (by assumption) (by omega))); (case zits => omega); (case ze8 => k_ne); (case ze9 => k_ne); (case ze10 => k_ne); (case zo => assumption); (case zs4 => (repeat' (first | exact List.forall_mem_nil _ | (refine fac (by k_memK) ?_)))); (case zl => (intro p' hp'; (repeat (with_reducible apply kfs5)); (repeat (refine List.Mem.tail _ ?_)); exact hp')); (case zFY => (repeat' (first | exact List.forall_mem_nil _ | (refine List.forall_mem_cons.mpr ⟨⟨_, by k_mem⟩, ?_⟩)))); (case zR => k_updF); k_whole); intro _ _ _ _ _ _ _ _ _ _; walk_at "kqd"; walk_at "kqh"; (try dsimp only); (try k_sweep)) | ((try dsimp only [List.nil_append, List.cons_append]); (with_reducible show wpAny _ _ (call (Value.builtin _) [Value.ref (PB.la _), Value.int _ _]) _ _ _); k_dflt (refine' append_T ?k1 ?k2 ?k3 ?k4 ?k5 ?k6 ?k7 ?k8 ?_; (case k1 => k_asm); (case k2 => k_asm); (case k3 => assumption); (case k4 => assumption); (case k5 => (intro p' hp'; (repeat (with_reducible apply kfs5)); (repeat (with_reducible apply mt)); exact hp')); (case k6 => assumption); (case k7 => k_updF); (case k8 => exact rs_len (by with_reducible assumption) (by with_reducible assumption) (by with_reducible assumption)); k_whole); intro _ _ _ _ _ _ _ _ _; (try k_sweep))) | ((with_reducible show wpAny _ _ (subscriptTail _ _ _ _) _ _ _); (try dsimp only); first | ((with_reducible show wpAny _ _ (subscriptTail _ _ (Value.ref _) (Value.int _ _)) _ _ _); (fail_if_success (with_reducible show wpAny _ _ (subscriptTail _ _ (Value.ref _) (Value.int (Int.ofNat _) _)) _ _ _)); k_dflt (refine' srl_item ?k1 ?k2 ?k3 ?k4 ?k5 ?k6 ?_ ?k7; (case k1 => k_asm); (case k2 => k_mem); (case k3 => assumption); (case k4 => assumption); (case k5 => omega); (case k6 => omega); (case k7 => with_unfolding_all rfl); k_whole))) | ((with_reducible show wpAny _ _ (eval (PySem.Expr.Name _ _) (envOf _ _ _ _ _)) _ _ _); first | k_dflt (refine' ld ?k1 ?k2 ?_; (case k1 => k_asm); (case k2 => exact rfl); k_whole) | (with_unfolding_all refine guard_global (by rfl) ?_; k_dflt (refine' name_K ?kF ?k1 ?k2 ?k3 ?_; (case kF => k_asm); (case k1 => k_asm); (case k2 => k_asm); (case k3 => k_is); k_whole))) | walk1 | (dsimp only; walk1) | (leave1; try dsimp only)))
        unfold JoinQ MidW
        rename Fr _ _ _ _ => F5
        rename News _ _ _ _ => N5
        rename PR => r5
        rename PortT _ _ _ _ _ _ => P5
        rename OwnOff _ _ => O5
        refine' ⟨rfl, _, _, PS.mk k3 kt3 kn3 jc tc' d nspl nsrl npr _ its pv rv r5.l ost, rfl, ⟨P5, O5, ?w1e, ?w1j, ?w1b, dst, hk30, ?w1k⟩, F5, ?w1N⟩
        case w1N =>
          dsimp only [PS.heads, List.cons_append, List.nil_append]
          exact News.sub N5 (by repeat' (first | (with_reducible refine fac ?_ ?_) | tb_rel | ((with_reducible show _ ∈ _); k_memK) | (intro p' hp'; (repeat (with_reducible apply kfs5)); (repeat (with_reducible apply mt)); exact hp')))
        case w1e => dsimp only; exact Even.mono (Even.put2 even (by with_reducible assumption) (by with_reducible assumption) (by with_reducible assumption) (by with_reducible assumption) (by with_reducible assumption) (by omega)) (by omega)
        case w1j => dsimp only; (simp only [List.length_set]; omega)
        case w1b => dsimp only; (simp only [List.length_set]; omega)
        case w1k => dsimp only; omega
      · (repeat' ((fail_if_success (with_reducible show Hold _)); (fail_if_success (with_reducible show JoinQ _ _ _)); (fail_if_success (with_reducible show TurnEnd _ _ _ _ _ _ _ _ _)); first | (k_unfold; (try dsimp only)) | (k_end; first | kc_close | wrow_close) | ((with_reducible show wpAny _ _ (call _ _) _ _ _); (try dsimp only); first | ((with_reducible show wpAny _ _ (call (Value.ref 545) _) _ _ _); k_dflt (refine' setcurT ?kB ?kF ?kX ?kN ?kT ?kf ?kk ?kd ?ku ?zm1 ?zm2 ?zset ?zm3 ?zm4 ?zm5 ?zm6 ?zm7 ?zm8 ?zP ?zj ?zits ?ze0 ?ze1 ?ze2 ?ze3 ?ze4 ?ze5 ?ze8 ?zo ?zs4 ?zl ?zR ?_; (case kB => k_asm); (case kF => k_asm); (case kX => k_asm); (case kN => k_asm); (case kT => k_asm); (case kf => first | exact rfl | assumption); (case kk => first | exact rfl | assumption); (case kd => k_room); (case ku => k_units); (case zm1 => k_mem); (case zm2 => k_mem); (case zset => k_get); (case zm3 => k_mem); (case zm4 => k_mem); (case zm5 => k_mem); (case zm6 => k_mem); (case zm7 => k_mem); (case zm8 => k_mem); (case zP => assumption); (case zj => assumption); (case zits => omega); (case ze0 => k_ne); (case ze1 => k_ne); (case ze2 => k_ne); (case ze3 => k_ne); (case ze4 => k_ne); (case ze5 => k_ne); (case ze8 => k_ne); (case zo => assumption); (case zs4 => k_memK); (case zl => (intro p' hp'; (repeat (with_reducible apply kfs5)); (repeat (refine List.Mem.tail _ ?_)); exact hp')); (case zR => k_updF); k_whole); intro _ _ _ _ _; walk_at "kqd"; (try dsimp only); (try k_sweep))) | ((with_reducible show wpAny _ _ (subscriptTail _ _ _ _) _ _ _); (try dsimp only); first | ((with_reducible show wpAny _ _ (subscriptTail _ _ (Value.ref _) (Value.int _ _)) _ _ _); k_dflt (refine' spl_item ?k1 ?k2 ?k3 ?k4 ?k5 ?k6 ?_ ?k7; (case k1 => k_asm); (case k2 => k_mem); (case k3 => assumption); (case k4 => omega); (case k5 => omega); (case k6 => omega); (case k7 => with_unfolding_all rfl); k_whole); walk_at "kq4")) | ((with_reducible show wpAny _ _ (eval (PySem.Expr.Name _ _) (envOf _ _ _ _ _)) _ _ _); first | k_dflt (refine' ld ?k1 ?k2 ?_; (case k1 => k_asm); (case k2 => exact rfl); k_whole) | (with_unfolding_all refine guard_global (by rfl) ?_; k_dflt (refine' name_K ?kF ?k1 ?k2 ?k3 ?_; (case kF => k_asm); (case k1 => k_asm); (case k2 => k_asm); (case k3 => k_is); k_whole))) | walk1 | (dsimp only; walk1) | (leave1; try dsimp only)))
        unfold JoinQ MidW
        rename Fr _ _ _ _ => F5
        rename News _ _ _ _ => N5
        rename Obj.IsDictOf _ _ _ => d5
        rename (_ - 1 = (_ : Int)) => e5
        rename (_[_ + 1]? = some _) => b5
        refine' ⟨rfl, _, _, PS.mk k3 kt3 kn3 _ _ _ nspl nsrl npr _ its pv rv l _, rfl, ⟨port, off, ?w1be, (List.getElem?_eq_some_iff.mp b5).1, ?w1bb, cur_set d5 e5, hk30, ?w1bk⟩, F5, ?w1bN⟩
        case w1bN =>
          dsimp only [PS.heads, List.cons_append, List.nil_append]
          exact News.sub N5 (by repeat' (first | (with_reducible refine fac ?_ ?_) | tb_rel | ((with_reducible show _ ∈ _); k_memK) | (intro p' hp'; (repeat (with_reducible apply kfs5)); (repeat (with_reducible apply mt)); exact hp')))
        case w1be => dsimp only; exact Even.mono even (by omega)
        case w1bb => dsimp only; omega
        case w1bk => dsimp only; omega
    · (repeat' ((fail_if_success (with_reducible show Hold _)); (fail_if_success (with_reducible show JoinQ _ _ _)); (fail_if_success (with_reducible show TurnEnd _ _ _ _ _ _ _ _ _)); first | (k_unfold; (try dsimp only)) | (k_end; first | kc_close | wrow_close) | ((with_reducible show wpAny _ _ (call _ _) _ _ _); (try dsimp only); first | ((with_reducible show wpAny _ _ (call (Value.ref 566) _) _ _ _); k_dflt (refine' newlineT ?kB ?kF ?kX ?kN ?kT ?kf ?kk ?kd ?ku ?zm1 ?zm2 ?zset ?zm3 ?zm4 ?zm5 ?zm6 ?zm7 ?zm8 ?zP ?zj ?zz ?zits ?ze8 ?zo ?zs4 ?zl ?zFY ?zR ?_; (case kB => k_asm); (case kF => k_asm); (case kX => k_asm); (case kN => k_asm); (case kT => k_asm); (case kf => first | exact rfl | assumption); (case kk => first | exact rfl | assumption); (case kd => k_room); (case ku => k_units); (case zm1 => k_mem); (case zm2 => k_mem); (case zset => k_get); (case zm3 => k_mem); (case zm4 => k_mem); (case zm5 => k_mem); (case zm6 => k_mem); (case zm7 => k_mem); (case zm8 => k_mem); (case zP => assumption); (case zj => assumption); (case zz => (first | with_reducible assumption | exact Even.len (by assumption) (by assumption) (by omega))); (case zits => omega); (case ze8 => k_ne); (case zo => assumption); (case zs4 => (repeat' (first | exact List.forall_mem_nil _ | (refine fac (by k_memK) ?_)))); (case zl => (intro p' hp'; (repeat (with_reducible apply kfs5)); (repeat (refine List.Mem.tail _ ?_)); exact hp')); (case zFY => (repeat' (first | exact List.forall_mem_nil _ | (refine List.forall_mem_cons.mpr ⟨⟨_, by k_mem⟩, ?_⟩)))); (case zR => k_updF); k_whole); intro _ _ _ _ _ _ _ _ _ _; walk_at "kqd"; walk_at "kqh"; (try dsimp only); (try k_sweep)) | ((try dsimp only [List.nil_append, List.cons_append]); (with_reducible show wpAny _ _ (call (Value.builtin _) [Value.ref (PB.la _), Value.int _ _]) _ _ _); k_dflt (refine' append_T ?k1 ?k2 ?k3 ?k4 ?k5 ?k6 ?k7 ?k8 ?_; (case k1 => k_asm); (case k2 => k_asm); (case k3 => assumption); (case k4 => assumption); (case k5 => (intro p' hp'; (repeat (with_reducible apply kfs5)); (repeat (with_reducible apply mt)); exact hp')); (case k6 => assumption); (case k7 => k_updF); (case k8 => exact rs_len (by with_reducible assumption) (by with_reducible assumption) (by with_reducible assumption)); k_whole); intro _ _ _ _ _ _ _ _ _; (try k_sweep))) | ((with_reducible show wpAny _ _ (subscriptTail _ _ _ _) _ _ _); (try dsimp only); first | ((with_reducible show wpAny _ _ (subscriptTail _ _ (Value.ref _) (Value.int _ _)) _ _ _); (fail_if_success (with_reducible show wpAny _ _ (subscriptTail _ _ (Value.ref _) (Value.int (Int.ofNat _) _)) _ _ _)); k_dflt (refine' srl_item ?k1 ?k2 ?k3 ?k4 ?k5 ?k6 ?_ ?k7; (case k1 => k_asm); (case k2 => k_mem); (case k3 => assumption); (case k4 => assumption); (case k5 => omega); (case k6 => omega); (case k7 => with_unfolding_all rfl); k_whole))) | ((with_reducible show wpAny _ _ (eval (PySem.Expr.Name _ _) (envOf _ _ _ _ _)) _ _ _); first | k_dflt (refine' ld ?k1 ?k2 ?_; (case k1 => k_asm); (case k2 => exact rfl); k_whole) | (with_unfolding_all refine guard_global (by rfl) ?_; k_dflt (refine' name_K ?kF ?k1 ?k2 ?k3 ?_; (case kF => k_asm); (case k1 => k_asm); (case k2 => k_asm); (case k3 => k_is); k_whole))) | walk1 | (dsimp only; walk1) | (leave1; try dsimp only)))
      unfold JoinQ MidW
      rename Fr _ _ _ _ => F5
      rename News _ _ _ _ => N5
      rename PR => r5
      rename PortT _ _ _ _ _ _ => P5
      rename OwnOff _ _ => O5
      refine' ⟨rfl, _, _, PS.mk k3 kt3 kn3 jc tc' d nspl nsrl npr _ its pv rv r5.l ost, rfl, ⟨P5, O5, ?w2e, ?w2j, ?w2b, dst, hk30, ?w2k⟩, F5, ?w2N⟩
      case w2N =>
        dsimp only [PS.heads, List.cons_append, List.nil_append]
        exact News.sub N5 (by repeat' (first | (with_reducible refine fac ?_ ?_) | tb_rel | ((with_reducible show _ ∈ _); k_memK) | (intro p' hp'; (repeat (with_reducible apply kfs5)); (repeat (with_reducible apply mt)); exact hp')))
      case w2e => dsimp only; exact Even.mono (Even.put2 even (by with_reducible assumption) (by with_reducible assumption) (by with_reducible assumption) (by with_reducible assumption) (by with_reducible assumption) (by omega)) (by omega)
      case w2j => dsimp only; (simp only [List.length_set]; omega)
      case w2b => dsimp only; (simp only [List.length_set]; omega)
      case w2k => dsimp only; omega
    · rcases posp port0 with rfl | hpos
      · (repeat' ((fail_if_success (with_reducible show Hold _)); (fail_if_success (with_reducible show JoinQ _ _ _)); (fail_if_success (with_reducible show TurnEnd _ _ _ _ _ _ _ _ _)); first | (k_unfold; (try dsimp only)) | (k_end; first | kc_close | wrow_close) | ((with_reducible show wpAny _ _ (call _ _) _ _ _); (try dsimp only); first | ((with_reducible show wpAny _ _ (call (Value.ref 573) _) _ _ _); k_dflt (refine' wcharT ?kB ?kF ?kX ?kN ?kT ?kf ?kk ?kd ?ku ?zm1 ?zm2 ?zset ?zm3 ?zm4 ?zm5 ?zm6 ?zm7 ?zm8 ?zm9 ?zm10 ?zP ?zj ?zz ?zits ?ze8 ?ze9 ?ze10 ?zo ?zs4 ?zl ?zFY ?zR ?_; (case kB => k_asm); (case kF => k_asm); (case kX => k_asm); (case kN => k_asm); (case kT => k_asm); (case kf => first | exact rfl | assumption); (case kk => first | exact rfl | assumption); (case kd => k_room); (case ku => k_units); (case zm1 => k_mem); (case zm2 => k_mem); (case zset => k_get); (case zm3 => k_mem); (case zm4 => k_mem); (case zm5 => k_mem); (case zm6 => k_mem); (case zm7 => k_mem); (case zm8 => k_mem); (case zm9 => k_mem); (case zm10 => k_mem); (case zP => assumption); (case zj => assumption); (case zz => (first | with_reducible assumption | exact Even.len (by assumption) (by assumption) (by omega))); (case zits => omega); (case ze8 => k_ne); (case ze9 => k_ne); (case ze10 => k_ne); (case zo => assumption); (case zs4 => (repeat' (first | exact List.forall_mem_nil _ | (refine fac (by k_memK) ?_)))); (case zl => (intro p' hp'; (repeat (with_reducible apply kfs5)); (repeat (refine List.Mem.tail _ ?_)); exact hp')); (case zFY => (repeat' (first | exact List.forall_mem_nil _ | (refine List.forall_mem_cons.mpr ⟨⟨_, by k_mem⟩, ?_⟩)))); (case zR => k_updF); k_whole); intro _ _ _ _ _ _ _ _ _ _; walk_at "kqd"; walk_at "kqh"; (try dsimp only); (try k_sweep)) | ((try dsimp only [List.nil_append, List.cons_append]); (with_reducible show wpAny _ _ (call (Value.builtin _) [Value.ref (PB.la _), Value.int _ _]) _ _ _); k_dflt (refine' append_T ?k1 ?k2 ?k3 ?k4 ?k5 ?k6 ?k7 ?k8 ?_; (case k1 => k_asm); (case k2 => k_asm); (case k3 => assumption); (case k4 => assumption); (case k5 => (intro p' hp'; (repeat (with_reducible apply kfs5)); (repeat (with_reducible apply mt)); exact hp')); (case k6 => assumption); (case k7 => k_updF); (case k8 => exact rs_len (by with_reducible assumption) (by with_reducible assumption) (by with_reducible assumption)); k_whole); intro _ _ _ _ _ _ _ _ _; (try k_sweep))) | ((with_reducible show wpAny _ _ (subscriptTail _ _ _ _) _ _ _); (try dsimp only); first | ((with_reducible show wpAny _ _ (subscriptTail _ _ (Value.ref _) (Value.int _ _)) _ _ _); (fail_if_success (with_reducible show wpAny _ _ (subscriptTail _ _ (Value.ref _) (Value.int (Int.ofNat _) _)) _ _ _)); k_dflt (refine' srl_item ?k1 ?k2 ?k3 ?k4 ?k5 ?k6 ?_ ?k7; (case k1 => k_asm); (case k2 => k_mem); (case k3 => assumption); (case k4 => assumption); (case k5 => omega); (case k6 => omega); (case k7 => with_unfolding_all rfl); k_whole))) | ((with_reducible show wpAny _ _ (eval (PySem.Expr.Name _ _) (envOf _ _ _ _ _)) _ _ _); first | k_dflt (refine' ld ?k1 ?k2 ?_; (case k1 => k_asm); (case k2 => exact rfl); k_whole) | (with_unfolding_all refine guard_global (by rfl) ?_; k_dflt (refine' name_K ?kF ?k1 ?k2 ?k3 ?_; (case kF => k_asm); (case k1 => k_asm); (case k2 => k_asm); (case k3 => k_is); k_whole))) | walk1 | (dsimp only; walk1) | (leave1; try dsimp only)))
        unfold JoinQ MidW
        rename Fr _ _ _ _ => F5
        rename News _ _ _ _ => N5
        rename PR => r5
        rename PortT _ _ _ _ _ _ => P5
        rename OwnOff _ _ => O5
        refine' ⟨rfl, _, _, PS.mk k3 kt3 kn3 jc tc' d nspl nsrl npr _ its pv rv r5.l ost, rfl, ⟨P5, O5, ?w3e, ?w3j, ?w3b, dst, hk30, ?w3k⟩, F5, ?w3N⟩
        case w3N =>
          dsimp only [PS.heads, List.cons_append, List.nil_append]
          exact News.sub N5 (by repeat' (first | (with_reducible refine fac ?_ ?_) | tb_rel | ((with_reducible show _ ∈ _); k_memK) | (intro p' hp'; (repeat (with_reducible apply kfs5)); (repeat (with_reducible apply mt)); exact hp')))
        case w3e => dsimp only; exact Even.mono (Even.put2 even (by with_reducible assumption) (by with_reducible assumption) (by with_reducible assumption) (by with_reducible assumption) (by with_reducible assumption) (by omega)) (by omega)
        case w3j => dsimp only; (simp only [List.length_set]; omega)
        case w3b => dsimp only; (simp only [List.length_set]; omega)
        case w3k => dsimp only; omega
      · (repeat' ((fail_if_success (with_reducible show Hold _)); (fail_if_success (with_reducible show JoinQ _ _ _)); (fail_if_success (with_reducible show TurnEnd _ _ _ _ _ _ _ _ _)); first | (k_unfold; (try dsimp only)) | (k_end; first | kc_close | wrow_close) | ((with_reducible show wpAny _ _ (call _ _) _ _ _); (try dsimp only); first | ((with_reducible show wpAny _ _ (call (Value.ref 573) _) _ _ _); k_dflt (refine' wcharA ?kB ?kF ?kX ?kN ?kT ?kf ?kk ?kd ?ku ?zm1 ?zm2 ?zset ?zm3 ?zm4 ?zm5 ?zm6 ?zm7 ?zm8 ?zm9 ?zm10 ?zP ?zj ?zz ?zits ?ze8 ?ze9 ?ze10 ?zo ?zs4 ?zl ?zFY ?zR ?_; (case kB => k_asm); (case kF => k_asm); (case kX => k_asm); (case kN => k_asm); (case kT => k_asm); (case kf => first | exact rfl | assumption); (case kk => first | exact rfl | assumption); (case kd => k_room); (case ku => k_units); (case zm1 => k_mem); (case zm2 => k_mem); (case zset => k_get); (case zm3 => k_mem); (case zm4 => k_mem); (case zm5 => k_mem); (case zm6 => k_mem); (case zm7 => k_mem); (case zm8 => k_mem); (case zm9 => k_mem); (case zm10 => k_mem); (case zP => assumption); (case zj => assumption); (case zz => (first | with_reducible assumption | exact Even.len (by assumption) (by assumption) (by omega))); (case zits => omega); (case ze8 => k_ne); (case ze9 => k_ne); (case ze10 => k_ne); (case zo => assumption); (case zs4 => (repeat' (first | exact List.forall_mem_nil _ | (refine fac (by k_memK) ?_)))); (case zl => (intro p' hp'; (repeat (with_reducible apply kfs5)); (repeat (refine List.Mem.tail _ ?_)); exact hp')); (case zFY => (repeat' (first | exact List.forall_mem_nil _ | (refine List.forall_mem_cons.mpr ⟨⟨_, by k_mem⟩, ?_⟩)))); (case zR => k_updF); k_whole); intro _ _ _ _ _ _ _ _ _ _; walk_at "kqd"; walk_at "kqh"; (try dsimp only); (try k_sweep)) | ((try dsimp only [List.nil_append, List.cons_append]); (with_reducible show wpAny _ _ (call (Value.builtin _) [Value.ref (PB.la _), Value.int _ _]) _ _ _); k_dflt (refine' append_T ?k1 ?k2 ?k3 ?k4 ?k5 ?k6 ?k7 ?k8 ?_; (case k1 => k_asm); (case k2 => k_asm); (case k3 => assumption); (case k4 => assumption); (case k5 => (intro p' hp'; (repeat (with_reducible apply kfs5)); (repeat (with_reducible apply mt)); exact hp')); (case k6 => assumption); (case k7 => k_updF); (case k8 => exact rs_len (by with_reducible assumption) (by with_reducible assumption) (by with_reducible assumption)); k_whole); intro _ _ _ _ _ _ _ _ _; (try k_sweep))) | ((with_reducible show wpAny _ _ (subscriptTail _ _ _ _) _ _ _); (try dsimp only); first | ((with_reducible show wpAny _ _ (subscriptTail _ _ (Value.ref _) (Value.int _ _)) _ _ _); k_dflt (refine' spl_item ?k1 ?k2 ?k3 ?k4 ?k5 ?k6 ?_ ?k7; (case k1 => k_asm); (case k2 => k_mem); (case k3 => assumption); (case k4 => omega); (case k5 => omega); (case k6 => omega); (case k7 => with_unfolding_all rfl); k_whole); walk_at "kq4") | ((with_reducible show wpAny _ _ (subscriptTail _ _ (Value.ref _) (Value.int _ _)) _ _ _); (fail_if_success (with_reducible show wpAny _ _ (subscriptTail _ _ (Value.ref _) (Value.int (Int.ofNat _) _)) _ _ _)); k_dflt (refine' srl_item ?k1 ?k2 ?k3 ?k4 ?k5 ?k6 ?_ ?k7; (case k1 => k_asm); (case k2 => k_mem); (case k3 => assumption); (case k4 => assumption); (case k5 => omega); (case k6 => omega); (case k7 => with_unfolding_all rfl); k_whole))) | ((with_reducible show wpAny _ _ (eval (PySem.Expr.Name _ _) (envOf _ _ _ _ _)) _ _ _); first | k_dflt (refine' ld ?k1 ?k2 ?_; (case k1 => k_asm); (case k2 => exact rfl); k_whole) | (with_unfolding_all refine guard_global (by rfl) ?_; k_dflt (refine' name_K ?kF ?k1 ?k2 ?k3 ?_; (case kF => k_asm); (case k1 => k_asm); (case k2 => k_asm); (case k3 => k_is); k_whole))) | walk1 | (dsimp only; walk1) | (leave1; try dsimp only)))
        unfold JoinQ MidW
        rename Fr _ _ _ _ => F5
        rename News _ _ _ _ => N5
        rename PR => r5
        rename PortT _ _ _ _ _ _ => P5
        rename OwnOff _ _ => O5
        refine' ⟨rfl, _, _, PS.mk k3 kt3 kn3 jc tc' d nspl nsrl npr _ its pv rv r5.l ost, rfl, ⟨P5, O5, ?w3be, ?w3bj, ?w3bb, dst, hk30, ?w3bk⟩, F5, ?w3bN⟩
        case w3bN =>
          dsimp only [PS.heads, List.cons_append, List.nil_append]
          exact News.sub N5 (by repeat' (first | (with_reducible refine fac ?_ ?_) | tb_rel | ((with_reducible show _ ∈ _); k_memK) | (intro p' hp'; (repeat (with_reducible apply kfs5)); (repeat (with_reducible apply mt)); exact hp')))
        case w3be => dsimp only; exact Even.mono (Even.put2 even (by with_reducible assumption) (by with_reducible assumption) (by with_reducible assumption) (by with_reducible assumption) (by with_reducible assumption) (by omega)) (by omega)
        case w3bj => dsimp only; (simp only [List.length_set]; omega)
        case w3bb => dsimp only; (simp only [List.length_set]; omega)
        case w3bk => dsimp only; omega
    · (repeat' ((fail_if_success (with_reducible show Hold _)); (fail_if_success (with_reducible show JoinQ _ _ _)); (fail_if_success (with_reducible show TurnEnd _ _ _ _ _ _ _ _ _)); first | (k_unfold; (try dsimp only)) | (k_end; first | kc_close | wrow_close) | ((with_reducible show wpAny _ _ (call _ _) _ _ _); (try dsimp only); first | ((with_reducible show wpAny _ _ (call (Value.ref 573) _) _ _ _); k_dflt (refine' wcharT ?kB ?kF ?kX ?kN ?kT ?kf ?kk ?kd ?ku ?zm1 ?zm2 ?zset ?zm3 ?zm4 ?zm5 ?zm6 ?zm7 ?zm8 ?zm9 ?zm10 ?zP ?zj ?zz ?zits ?ze8 ?ze9 ?ze10 ?zo ?zs4 ?zl ?zFY ?zR ?_; (case kB => k_asm); (case kF => k_asm); (case kX => k_asm); (case kN => k_asm); (case kT => k_asm); (case kf => first | exact rfl | assumption); (case kk => first | exact rfl | assumption); (case kd => k_room); (case ku => k_units); (case zm1 => k_mem); (case zm2 => k_mem); (case zset => k_get); (case zm3 => k_mem); (case zm4 => k_mem); (case zm5 => k_mem); (case zm6 => k_mem); (case zm7 => k_mem); (case zm8 => k_mem); (case zm9 => k_mem); (case zm10 => k_mem); (case zP => assumption); (case zj => assumption); (case zz => (first | with_reducible assumption | exact Even.len (by assumption) (by assumption) (by omega))); (case zits => omega); (case ze8 => k_ne); (case ze9 => k_ne); (case ze10 => k_ne); (case zo => assumption); (case zs4 => (repeat' (first | exact List.forall_mem_nil _ | (refine fac (by k_memK) ?_)))); (case zl => (intro p' hp'; (repeat (with_reducible apply kfs5)); (repeat (refine List.Mem.tail _ ?_)); exact hp')); (case zFY => (repeat' (first | exact List.forall_mem_nil _ | (refine List.forall_mem_cons.mpr ⟨⟨_, by k_mem⟩, ?_⟩)))); (case zR => k_updF); k_whole); intro _ _ _ _ _ _ _ _ _ _; walk_at "kqd"; walk_at "kqh"; (try dsimp only); (try k_sweep)) | ((try dsimp only [List.nil_append, List.cons_append]); (with_reducible show wpAny _ _ (call (Value.builtin _) [Value.ref (PB.la _), Value.int _ _]) _ _ _); k_dflt (refine' append_T ?k1 ?k2 ?k3 ?k4 ?k5 ?k6 ?k7 ?k8 ?_; (case k1 => k_asm); (case k2 => k_asm); (case k3 => assumption); (case k4 => assumption); (case k5 => (intro p' hp'; (repeat (with_reducible apply kfs5)); (repeat (with_reducible apply mt)); exact hp')); (case k6 => assumption); (case k7 => k_updF); (case k8 => exact rs_len (by with_reducible assumption) (by with_reducible assumption) (by with_reducible assumption)); k_whole); intro _ _ _ _ _ _ _ _ _; (try k_sweep))) | ((with_reducible show wpAny _ _ (subscriptTail _ _ _ _) _ _ _); (try dsimp only); first | ((with_reducible show wpAny _ _ (subscriptTail _ _ (Value.ref _) (Value.int _ _)) _ _ _); (fail_if_success (with_reducible show wpAny _ _ (subscriptTail _ _ (Value.ref _) (Value.int (Int.ofNat _) _)) _ _ _)); k_dflt (refine' srl_item ?k1 ?k2 ?k3 ?k4 ?k5 ?k6 ?_ ?k7; (case k1 => k_asm); (case k2 => k_mem); (case k3 => assumption); (case k4 => assumption); (case k5 => omega); (case k6 => omega); (case k7 => with_unfolding_all rfl); k_whole))) | ((with_reducible show wpAny _ _ (eval (PySem.Expr.Name _ _) (envOf _ _ _ _ _)) _ _ _); first | k_dflt (refine' ld ?k1 ?k2 ?_; (case k1 => k_asm); (case k2 => exact rfl); k_whole) | (with_unfolding_all refine guard_global (by rfl) ?_; k_dflt (refine' name_K ?kF ?k1 ?k2 ?k3 ?_; (case kF => k_asm); (case k1 => k_asm); (case k2 => k_asm); (case k3 => k_is); k_whole))) | walk1 | (dsimp only; walk1) | (leave1; try dsimp only)))
      unfold JoinQ MidW
      rename Fr _ _ _ _ => F5
      rename News _ _ _ _ => N5
      rename PR => r5
      rename PortT _ _ _ _ _ _ => P5
      rename OwnOff _ _ => O5
      refine' ⟨rfl, _, _, PS.mk k3 kt3 kn3 jc tc' d nspl nsrl npr _ its pv rv r5.l ost, rfl, ⟨P5, O5, ?w4e, ?w4j, ?w4b, dst, hk30, ?w4k⟩, F5, ?w4N⟩
      case w4N =>
        dsimp only [PS.heads, List.cons_append, List.nil_append]
        exact News.sub N5 (by repeat' (first | (with_reducible refine fac ?_ ?_) | tb_rel | ((with_reducible show _ ∈ _); k_memK) | (intro p' hp'; (repeat (with_reducible apply kfs5)); (repeat (with_reducible apply mt)); exact hp')))
      case w4e => dsimp only; exact Even.mono (Even.put2 even (by with_reducible assumption) (by with_reducible assumption) (by with_reducible assumption) (by with_reducible assumption) (by with_reducible assumption) (by omega)) (by omega)
      case w4j => dsimp only; (simp only [List.length_set]; omega)
      case w4b => dsimp only; (simp only [List.length_set]; omega)
      case w4k => dsimp only; omega
  case rest =>
    clear N2
    rintro h3 tk3 ⟨k9, kt9, kn9, jc9, tc9, d9, nspl9, nsrl9, npr9, bs9, its9, pv9, rv9, l9, ost9⟩ ⟨port9, off9, even9, jcl9, bsz9, dst9, k09, k19⟩ F3 N3
    clear hbc4 hbc3 hkz hke hbc zpv zits zrv hpv hrv hplv port off even jcl bsz dst F1
    dsimp only [PS.heads, PC.adrs, List.cons_append, List.nil_append] at port9 off9 even9 jcl9 bsz9 dst9 k09 k19 N3
    have zpv := port9.spv
    have zits := port9.sits
    have zrv := port9.srv
    have hpv : pv9.size ≤ 1000 := by omega
    have hrv : rv9.size ≤ 1001 := by omega
    have hplv : its9.size ≤ 1000 := by omega
    (repeat' ((fail_if_success (with_reducible show Hold _)); (fail_if_success (with_reducible show JoinQ _ _ _)); (fail_if_success (with_reducible show TurnEnd _ _ _ _ _ _ _ _ _)); first | (k_unfold; (try dsimp only)) | (k_end; first | kc_close | wrow_close) | ((with_reducible show wpAny _ _ (call _ _) _ _ _); (try dsimp only); first | ((with_reducible show wpAny _ _ (call (Value.builtin "len") [Value.ref _]) _ _ _); k_dflt (refine' len_M ?k1 ?k2 ?k3 ?_; (case k1 => k_asm); (case k2 => k_mem); (case k3 => first | assumption | (simp only [Array.size_push]; omega)); k_whole); (try dsimp only))) | ((with_reducible show wpAny _ _ (exec (PySem.Stmt.For _ _ _ _ _) _) _ _ _); ((rename Fr _ _ _ _ => lF'); (with_unfolding_all refine' For_invVF lF' ?k1 ?k2 ?_; (case k1 => exact rfl); (case k2 => exact rfl); k_whole))) | ((with_reducible show wpAny _ _ (eval (PySem.Expr.Name _ _) (envOf _ _ _ _ _)) _ _ _); first | k_dflt (refine' ld ?k1 ?k2 ?_; (case k1 => k_asm); (case k2 => exact rfl); k_whole) | (with_unfolding_all refine guard_global (by rfl) ?_; k_dflt (refine' name_K ?kF ?k1 ?k2 ?k3 ?_; (case kF => k_asm); (case k1 => k_asm); (case k2 => k_asm); (case k3 => k_is); k_whole))) | walk1 | (dsimp only; walk1) | (leave1; try dsimp only)))
    unfold Hold
    rename Fr _ _ _ _ => F4
    rename News _ _ _ _ => N4
    rename IsRange _ _ _ _ _ _ _ _ => R4
    refine range_loop (n := pv9.size) (JK _ (.ofString "place") (.ofString "told") _) rfl R4 rfl (by omega) F4 N4 JK.zero ?turn ?done
    case turn => 
      clear F4 N4 R4
      rintro i t I m1 nx h tk oI hi ⟨rfl, u, v, rfl⟩ hI F5 N5
      rw [turn_start2] at F5
      dsimp only [envOf] at F5 N5
      (repeat' ((fail_if_success (with_reducible show Hold _)); (fail_if_success (with_reducible show JoinQ _ _ _)); (fail_if_success (with_reducible show TurnEnd _ _ _ _ _ _ _ _ _)); first | (k_unfold; (try dsimp only)) | (k_end; first | kc_close | wrow_close) | ((with_reducible show wpAny _ _ (call _ _) _ _ _); (try dsimp only); first | ((with_reducible show wpAny _ _ (call (Value.ref 559) _) _ _ _); k_dflt (refine' getstrT ?kB ?kF ?kX ?kN ?kT ?kf ?kk ?kd ?ku ?zm1 ?zm2 ?zset ?zm3 ?zm4 ?zm5 ?zm6 ?zm7 ?zm8 ?zP ?zj ?zits ?zz ?zl ?_; (case kB => k_asm); (case kF => k_asm); (case kX => k_asm); (case kN => k_asm); (case kT => k_asm); (case kf => first | exact rfl | assumption); (case kk => first | exact rfl | assumption); (case kd => k_room); (case ku => k_units); (case zm1 => k_mem); (case zm2 => k_mem); (case zset => k_get); (case zm3 => k_mem); (case zm4 => k_mem); (case zm5 => k_mem); (case zm6 => k_mem); (case zm7 => k_mem); (case zm8 => k_mem); (case zP => assumption); (case zj => assumption); (case zits => omega); (case zz => (first | with_reducible assumption | exact Even.len (by assumption) (by assumption) (by omega))); (case zl => (intro p' hp'; (repeat (with_reducible apply kfs5)); (repeat (refine List.Mem.tail _ ?_)); exact hp')); k_whole); intro _ _ _ _ _ _ _ _ _ _ _; (try dsimp only); (try k_sweep)) | ((with_reducible show wpAny _ _ (call (Value.ref 310) _) _ _ _); k_dflt (refine' codesT ?kB ?kF ?kX ?kN ?kT ?kf ?kk ?kd ?ku ?zm1 ?zm2 ?zm3 ?zm4 ?zm5 ?zi ?zz ?_; (case kB => k_asm); (case kF => k_asm); (case kX => k_asm); (case kN => k_asm); (case kT => k_asm); (case kf => first | exact rfl | assumption); (case kk => first | exact rfl | assumption); (case kd => k_room); (case ku => k_units); (case zm1 => k_mem); (case zm2 => k_mem); (case zm3 => k_mem); (case zm4 => k_mem); (case zm5 => k_mem); (case zi => assumption); (case zz => (first | with_reducible assumption | exact Even.len (by assumption) (by assumption) (by omega))); k_whole); intro _ _ _ _ _ _ _ _; (try dsimp only); (try k_sweep))) | ((with_reducible show wpAny _ _ (subscriptTail _ _ _ _) _ _ _); (try dsimp only); first | ((with_reducible show wpAny _ _ (subscriptTail _ _ (Value.ref _) (Value.int _ _)) _ _ _); k_dflt (refine' spl_item ?k1 ?k2 ?k3 ?k4 ?k5 ?k6 ?_ ?k7; (case k1 => k_asm); (case k2 => k_mem); (case k3 => assumption); (case k4 => omega); (case k5 => omega); (case k6 => omega); (case k7 => with_unfolding_all rfl); k_whole); walk_at "kq4") | ((with_reducible show wpAny _ _ (subscriptTail _ _ (Value.ref _) (Value.int _ _)) _ _ _); (fail_if_success (with_reducible show wpAny _ _ (subscriptTail _ _ (Value.ref _) (Value.int (Int.ofNat _) _)) _ _ _)); k_dflt (refine' srl_item ?k1 ?k2 ?k3 ?k4 ?k5 ?k6 ?_ ?k7; (case k1 => k_asm); (case k2 => k_mem); (case k3 => assumption); (case k4 => assumption); (case k5 => omega); (case k6 => omega); (case k7 => with_unfolding_all rfl); k_whole))) | ((with_reducible show wpAny _ _ (compareOp _ _ _) _ _ _); (try dsimp only); first | ((with_reducible show wpAny _ _ (compareOp CmpOp.NotEq (Value.ref _) (Value.ref _)) _ _ _); (k_dflt (refine ne_ints (by k_asm) (by k_mem) (by k_mem) (by assumption) (Even.ints (by assumption) (by assumption) (by assumption)) (by k_units) ?_)))) | ((with_reducible show wpAny _ _ (eval (PySem.Expr.Name _ _) (envOf _ _ _ _ _)) _ _ _); first | k_dflt (refine' ld ?k1 ?k2 ?_; (case k1 => k_asm); (case k2 => exact rfl); k_whole) | (with_unfolding_all refine guard_global (by rfl) ?_; k_dflt (refine' name_K ?kF ?k1 ?k2 ?k3 ?_; (case kF => k_asm); (case k1 => k_asm); (case k2 => k_asm); (case k3 => k_is); k_whole))) | walk1 | (dsimp only; walk1) | (leave1; try dsimp only)))
      rename Fr _ _ _ _ => F6
      rename News _ _ _ _ => N6
      refine turn_nextJ F6 N6 hI ⟨_, _, map_end3⟩ (by repeat' (first | (with_reducible refine fac ?_ ?_) | tb_rel | ((with_reducible show _ ∈ _); k_memK) | (intro p' hp'; (repeat (with_reducible apply kfs5)); (repeat (with_reducible apply mt)); exact hp')))
    case done => 
      clear F4 N4 R4
      rintro m1 nx h tk ⟨rfl, u, v, rfl⟩ F5 N5
      dsimp only [envOf] at F5 N5
      obtain ⟨b0, hb0⟩ := getElem?_of_lt (xs := bs9) (i := 0) (by omega)
      have hr0 := port9.row 0 b0 hb0
      have hi0 : IntsAre b0.ls b0.rs := hr0.h2
      have hc0 : IntsAre b0.cs b0.ks := hr0.h1
      have hk0 : b0.ks = b0.rs := even9.same hb0
      have hz0 : b0.ks.length ≤ 900 := even9.len hb0 (by omega)
      have hla0 := hr0.i4
      have ht0 : textOf b0.ks = Txt.join (Str.ofString "") (b0.rs.map sign) := congrArg textOf hk0
      have hl0 : b0.ls.toArray.size = b0.rs.length := by have := IntsAre.len hi0; simpa using this
      (repeat' ((fail_if_success (with_reducible show Hold _)); (fail_if_success (with_reducible show JoinQ _ _ _)); (fail_if_success (with_reducible show TurnEnd _ _ _ _ _ _ _ _ _)); first | (k_unfold; (try dsimp only)) | (k_end; first | kc_close | wrow_close) | ((with_reducible show wpAny _ _ (subscriptTail _ _ _ _) _ _ _); (try dsimp only); first | ((with_reducible show wpAny _ _ (subscriptTail _ _ (Value.ref _) (Value.int _ _)) _ _ _); (fail_if_success (with_reducible show wpAny _ _ (subscriptTail _ _ (Value.ref _) (Value.int (Int.ofNat _) _)) _ _ _)); k_dflt (refine' srl_item ?k1 ?k2 ?k3 ?k4 ?k5 ?k6 ?_ ?k7; (case k1 => k_asm); (case k2 => k_mem); (case k3 => assumption); (case k4 => assumption); (case k5 => omega); (case k6 => omega); (case k7 => with_unfolding_all rfl); k_whole))) | ((with_reducible show wpAny _ _ (eval (PySem.Expr.ListComp _ _ _ _) _) _ _ _); k_dflt (refine LCg.ListComp_U (F₀ := by k_asm) (by with_unfolding_all rfl) (by decide) (by rfl) (by decide) (by rfl) ?_)) | ((with_reducible show wpAny _ _ (eval (PySem.Expr.Name _ _) (envOf _ _ _ _ _)) _ _ _); first | k_dflt (refine' ld ?k1 ?k2 ?_; (case k1 => k_asm); (case k2 => exact rfl); k_whole) | (with_unfolding_all refine guard_global (by rfl) ?_; k_dflt (refine' name_K ?kF ?k1 ?k2 ?k3 ?_; (case kF => k_asm); (case k1 => k_asm); (case k2 => k_asm); (case k3 => k_is); k_whole))) | walk1 | (dsimp only; walk1) | (leave1; try dsimp only)))
      unfold Hold
      rename Fr _ _ _ _ => F6
      rename News _ _ _ _ => N6
      refine LCg.CompSrc.ledger (its := b0.ls.toArray) rfl F6 N6 (by k_mem) (small_line (by rw [hl0, ← hk0]; omega)) ?_
      intro g0
      refine comp_keep (fun i ys => CarriedAll ys ((b0.rs.take i).map fun n => PyData.str (sign n))) .nil ?step ?fin
      case step =>
        clear F6 N6
        rintro i ys v I oI C oC D m₂ h tk E' hlt hc hv hC hx F' N' off0 ne
        obtain ⟨n, t, rfl, hn⟩ := hi0.at i v (by simpa using hv)
        have hb' := even9.bnd hb0 n (by rw [hk0]; exact List.mem_of_getElem? hn)
        have off1 := off0
        dsimp only
        (repeat' ((fail_if_success (with_reducible show Hold _)); (fail_if_success (with_reducible show JoinQ _ _ _)); (fail_if_success (with_reducible show TurnEnd _ _ _ _ _ _ _ _ _)); first | (k_unfold; (try dsimp only)) | (k_end; first | kc_close | wrow_close) | ((with_reducible show wpAny _ _ (call _ _) _ _ _); (try dsimp only); first | ((with_reducible show wpAny _ _ (call (Value.builtin "chr") [Value.int _ _]) _ _ _); (refine chr_of_range (by omega) (by omega) ?_))) | ((with_reducible show wpAny _ _ (eval (PySem.Expr.Name _ _) (envOf _ _ _ _ _)) _ _ _); first | k_dflt (refine' ld ?k1 ?k2 ?_; (case k1 => k_asm); (case k2 => exact rfl); k_whole) | (with_unfolding_all refine guard_global (by rfl) ?_; k_dflt (refine' name_K ?kF ?k1 ?k2 ?k3 ?_; (case kF => k_asm); (case k1 => k_asm); (case k2 => k_asm); (case k3 => k_is); k_whole))) | walk1 | (dsimp only; walk1) | (leave1; try dsimp only)))
        unfold Hold
        rename Fr _ _ _ _ => F7
        rename News _ _ _ _ => N7
        refine comp_keep_end F7 N7 (fun p hp => hp) off1 (Or.inr ⟨_, (show (b0.la, W.listOf b0.ls.toArray b0.nl) ∈ _ by k_mem), rfl, _, rfl⟩) ?_
        rw [take_snoc hn, List.map_append]
        exact carried_snoc hc (.str _ _)
      case fin =>
        clear F6 N6
        rintro ys hc
        (repeat' ((fail_if_success (with_reducible show Hold _)); (fail_if_success (with_reducible show JoinQ _ _ _)); (fail_if_success (with_reducible show TurnEnd _ _ _ _ _ _ _ _ _)); first | (k_unfold; (try dsimp only)) | (k_end; first | kc_close | wrow_close) | ((with_reducible show wpAny _ _ (call _ _) _ _ _); (try dsimp only); first | ((with_reducible show wpAny _ _ (call (Value.builtin "str.join") _) _ _ _); ((try dsimp only [List.nil_append, List.cons_append]); refine hold ?_))) | ((with_reducible show wpAny _ _ (eval (PySem.Expr.Name _ _) (envOf _ _ _ _ _)) _ _ _); first | k_dflt (refine' ld ?k1 ?k2 ?_; (case k1 => k_asm); (case k2 => exact rfl); k_whole) | (with_unfolding_all refine guard_global (by rfl) ?_; k_dflt (refine' name_K ?kF ?k1 ?k2 ?k3 ?_; (case kF => k_asm); (case k1 => k_asm); (case k2 => k_asm); (case k3 => k_is); k_whole))) | walk1 | (dsimp only; walk1) | (leave1; try dsimp only)))
        unfold Hold
        rename Fr _ _ _ _ => F8
        rename News _ _ _ _ => N8
        rw [hl0, List.take_length] at hc
        refine KT.join_B (g := sign) 1 (isList_M N8 (.head _)) hc (fun a ha => by show (1 : Nat) ≤ 1; exact Nat.le_refl _) (by rw [← hk0]; omega) (by decide) fun t' k => ?_
        (repeat' ((fail_if_success (with_reducible show Hold _)); (fail_if_success (with_reducible show JoinQ _ _ _)); (fail_if_success (with_reducible show TurnEnd _ _ _ _ _ _ _ _ _)); first | (k_unfold; (try dsimp only)) | (k_end; first | kc_close | wrow_close) | ((with_reducible show wpAny _ _ (call _ _) _ _ _); (try dsimp only); first | ((with_reducible show wpAny _ _ (call (Value.ref 595) _) _ _ _); k_dflt (refine' takeT ?kB ?kF ?kX ?kN ?kT ?kf ?kk ?kd ?ku ?zm1 ?zm2 ?zm3 ?zm4 ?zm5 ?zP ?zj ?zz ?zb9 ?zl ?_; (case kB => k_asm); (case kF => k_asm); (case kX => k_asm); (case kN => k_asm); (case kT => k_asm); (case kf => first | exact rfl | assumption); (case kk => first | exact rfl | assumption); (case kd => k_room); (case ku => k_units); (case zm1 => k_mem); (case zm2 => k_mem); (case zm3 => k_mem); (case zm4 => k_mem); (case zm5 => k_mem); (case zP => assumption); (case zj => assumption); (case zz => (first | with_reducible assumption | exact Even.len (by assumption) (by assumption) (by omega))); (case zb9 => (exact Even.bnd (by assumption) (by assumption))); (case zl => (intro p' hp'; (repeat (with_reducible apply kfs5)); (repeat (refine List.Mem.tail _ ?_)); exact hp')); k_whole); intro _ _ _ _ _; (try dsimp only); (try k_sweep))) | ((with_reducible show wpAny _ _ (compareOp _ _ _) _ _ _); (try dsimp only); first | ((with_reducible show wpAny _ _ (compareOp CmpOp.Eq (Value.str _ _) (Value.str _ _)) _ _ _); (refine eq_str_of (by with_reducible assumption) ?_))) | ((with_reducible show wpAny _ _ (eval (PySem.Expr.Name _ _) (envOf _ _ _ _ _)) _ _ _); first | k_dflt (refine' ld ?k1 ?k2 ?_; (case k1 => k_asm); (case k2 => exact rfl); k_whole) | (with_unfolding_all refine guard_global (by rfl) ?_; k_dflt (refine' name_K ?kF ?k1 ?k2 ?k3 ?_; (case kF => k_asm); (case k1 => k_asm); (case k2 => k_asm); (case k3 => k_is); k_whole))) | walk1 | (dsimp only; walk1) | (leave1; try dsimp only)))
        refine' hret _ _ _ _ ?zp ?zf ?zn ?zk ?zr
        case zf => k_asm
        case zn => k_asm
        case zk => refine keep_mut (by k_asm) (by k_asm) hN (by k_asm) ?_; repeat' (first | (with_reducible refine fac ?_ ?_) | (with_reducible exact List.forall_mem_nil _) | ((with_reducible apply Or.inl); tb_rel) | ((with_reducible apply Or.inr); tb_rel) | (intro p' hp'; refine Or.inl ?_; (repeat (with_reducible apply kfs5)); (repeat (with_reducible apply mt)); exact tail_adr hp'))
        case zr => exact fresh_of (by k_asm) (by k_asm)
        case zp =>
          refine' ⟨rfl, PS.mk k9 kt9 kn9 jc9 tc9 d9 nspl9 nsrl9 npr9 bs9 its9 pv9 rv9 l9 ost9, ⟨port9, off9, even9.mono (by omega), jcl9, ?zb, dst9, k09, ?zk1⟩, ?zm⟩
          case zb => dsimp only; omega
          case zk1 => dsimp only; omega
          case zm =>
            dsimp only [PS.heads, List.cons_append, List.nil_append]
            repeat' (first | (with_reducible refine fac ?_ ?_) | tb_rel | ((with_reducible show _ ∈ _); k_memK) | (intro p' hp'; (repeat (with_reducible apply kfs5)); (repeat (with_reducible apply mt)); exact hp'))
end WX
theorem written_spec {w : World} {c : NC} {e : PC} {M : Nat} {f : Int} {tf sf : Tok} {π : PS} (hc : NCok c) (he : PCok c e) (hI : InvP w c e M f sf π) (hM : M ≤ 400) :
    Spec w 24 994 [.ref c.dk, .ref c.set, .ref e.sto, .ref c.stt] (π.heads w c e f tf ++ π.l) ([c.dk, e.ptd, e.pr, c.stt, c.spl, c.srl] ++ π.l.map (·.1)) (fun v new => v = .bool true ∧ ∃ π' : PS, InvP w c e (M + 10) f sf π' ∧ ∀ p ∈ π'.heads w c e f tf ++ π'.l, p ∈ new) :=
  Spec.of fun a => WX.all (WX.eqX ▸ WX.core) ⟨w, M, f, tf, sf, c, e, π, a⟩ hc he hI hM
end
/-! ## the law's own state -/
structure LS where
  σ : NS
  π : PS
def NC.at (c : NC) (π : PS) : NC := { c with cur := (π.jc : Int), tc := π.tc }
theorem NCok.at {c : NC} (h : NCok c) (π : PS) : NCok (c.at π) := ⟨h.hi, h.hlo, h.hhi, h.hb, h.c0, h.c1, h.c2, h.c3, h.c4, h.c5, h.c6, h.c7, h.c8, h.c9, h.c10, h.c11, h.c12, h.lo1, h.lo2, h.lo3, h.lo4, h.lo5, h.lo6, h.lo7⟩
def restP (c : NC) (e : PC) : List Addr := [c.pt, e.ptd, e.pr, e.sto, e.std, c.spl, c.srl]
def restN (c : NC) : List Addr := [c.tab, c.dt, c.rl, c.bd, c.ti, c.op, c.sy, c.sti, c.sop]
noncomputable def PRest (w : World) (c : NC) (e : PC) (π : PS) : Led := [(c.pt, instObj 506 e.ptd), (e.ptd, ptObj w e.pr e.fd (numOf π.jc) e.qa e.qb e.qc π.d e.qe e.qf 4), (e.pr, W.listOf π.its π.npr), (e.sto, instObj 967 e.std), (e.std, stoObj w c.tab e.s1 e.s2), (c.spl, W.listOf π.pv π.nspl), (c.srl, W.listOf π.rv π.nsrl)]
noncomputable def NRest (w : World) (c : NC) (σ : NS) : Led := [(c.tab, instObj 128 c.dt), (c.dt, tabObj w c.rl c.bd c.ta c.tb c.n), (c.rl, W.listOf σ.its σ.nl), (c.bd, σ.ob), (c.ti, σ.ot), (c.op, σ.oo), (c.sy, σ.oy), (c.sti, σ.os), (c.sop, σ.oq)]
noncomputable def lawL (w : World) (c : NC) (e : PC) (r : LS) : Led := (r.σ.heads w c ++ r.σ.l) ++ (PRest w c e r.π ++ r.π.l)
structure LawI (w : World) (c : NC) (e : PC) (M : Nat) (r : LS) : Prop where
  n : InvN w (c.at r.π) M r.σ
  p : InvP w c e M r.σ.f r.σ.sf r.π
  k : r.π.k = r.σ.k
  kt : r.π.kt = r.σ.kt
  kn : r.π.kn = r.σ.kn
  ost : r.π.ost = r.σ.ost
  d1 : OwnOff r.σ.l (restP c e)
  d2 : OwnOff r.π.l (restN c)
  d3 : ∀ p ∈ r.σ.l, ∀ q ∈ r.π.l, q.1 ≠ p.1
section
variable {w : World} {c : NC} {e : PC} {r : LS} {M : Nat} {p : Addr × Obj}
theorem mem_hd (h : p ∈ r.σ.heads w c) : p ∈ lawL w c e r := List.mem_append_left _ (List.mem_append_left _ h)
theorem mem_sl (h : p ∈ r.σ.l) : p ∈ lawL w c e r := List.mem_append_left _ (List.mem_append_right _ h)
theorem mem_pr (h : p ∈ PRest w c e r.π) : p ∈ lawL w c e r := List.mem_append_right _ (List.mem_append_left _ h)
theorem mem_pl (h : p ∈ r.π.l) : p ∈ lawL w c e r := List.mem_append_right _ (List.mem_append_right _ h)
theorem idx_in {α : Type} {A B : List α} (J : List Nat) (h : B.map some = J.map fun j => A[j]?) : ∀ a ∈ B, a ∈ A := fun a ha => by
  have h1 : some a ∈ B.map some := List.mem_map.mpr ⟨a, ha, rfl⟩
  rw [h] at h1
  obtain ⟨j, _, e⟩ := List.mem_map.mp h1
  exact List.mem_of_getElem? e
theorem idx_off {L A B : List Nat} (h : SD L) (I J : List Nat) (hA : A.map some = I.map fun j => L[j]?) (hB : B.map some = J.map fun j => L[j]?) (hd : ∀ i ∈ I, i ∉ J) : ∀ a ∈ A, a ∉ B := fun a ha hb => by
  have h1 : some a ∈ A.map some := List.mem_map.mpr ⟨a, ha, rfl⟩
  have h2 : some a ∈ B.map some := List.mem_map.mpr ⟨a, hb, rfl⟩
  rw [hA] at h1
  rw [hB] at h2
  obtain ⟨i, hi, e1⟩ := List.mem_map.mp h1
  obtain ⟨j, hj, e2⟩ := List.mem_map.mp h2
  obtain ⟨l1, e1⟩ := List.getElem?_eq_some_iff.mp e1
  obtain ⟨l2, e2⟩ := List.getElem?_eq_some_iff.mp e2
  rcases Nat.lt_trichotomy i j with q | q | q
  · have := List.pairwise_iff_getElem.mp h i j l1 l2 q; omega
  · subst q; exact hd i hi hj
  · have := List.pairwise_iff_getElem.mp h j i l2 l1 q; omega
def lawAdr (c : NC) (e : PC) : List Nat := [c.ce, c.dk, c.sd, c.set, c.dt, c.tab, c.rl, c.bd, c.ti, c.op, e.ptd, c.pt, e.pr, e.std, e.sto, c.stt, c.sy, c.sti, c.sop, c.spl, c.srl]
theorem lawSD (hc : NCok c) (he : PCok c e) : SD (lawAdr c e) := SD.more hc.c0 (SD.more hc.c1 (SD.more hc.c2 (SD.more hc.c3 (SD.more hc.c4 (SD.more hc.c5 (SD.more hc.c6 (SD.more hc.c7 (SD.more hc.c8 (SD.more he.o1 (SD.more he.o2 (SD.more he.o3 (SD.more he.o4 (SD.more he.o5 (SD.more he.o6 (SD.more hc.c10 (SD.more hc.c11 (SD.more hc.c12 (SD.more he.o7 (SD.more he.o8 SD.one)))))))))))))))))))
theorem OwnOff.both {l : Led} {A B C : List Addr} (h : OwnOff l A) (h' : OwnOff l B) (s : ∀ a ∈ C, a ∈ A ++ B) : OwnOff l C := fun p hp b hb => by
  rcases List.mem_append.mp (s b hb) with q | q
  · exact h p hp b q
  · exact h' p hp b q
theorem OwnOff.not_in {l : Led} {A : List Addr} (h : OwnOff l A) : ∀ p ∈ l, p.1 ∉ A := fun p hp hm => h p hp _ hm rfl
theorem of_rest {A : List Addr} {R l : Led} (hR : ∀ a ∈ R.map (·.1), a ∉ A) (hl : ∀ p ∈ l, p.1 ∉ A) : ∀ p ∈ R ++ l, p.1 ∉ A := fun p hp => by
  rcases List.mem_append.mp hp with q | q
  · exact hR _ (List.mem_map.mpr ⟨p, q, rfl⟩)
  · exact hl p q
theorem Spec.sub {n : Nat} {f : Addr} {vs : List Value} {fp fp' : Led} {mt : List Addr} {Post : Value → Led → Prop} (C : Spec w n f vs fp mt Post) (hs : ∀ p ∈ fp, p ∈ fp') : Spec w n f vs fp' mt Post :=
  fun dp un gd env outer A₀ base h₀ L m mean mg mb s Q E B F X N T hf hk hd hu hret =>
    C dp un gd env outer A₀ base h₀ L m mean mg mb s Q E B F X (fun p hq => N p (hs p hq)) T hf hk hd hu (fun v new h' tk' hP F' N' K' Y' =>
      hret v new h' tk' hP F' N' K' (fun p hp hn => Y' p hp fun hm => hn (by
        obtain ⟨q, hq, e⟩ := List.mem_map.mp hm
        exact List.mem_map.mpr ⟨q, hs q hq, e⟩)))
theorem InvN.mono {M' : Nat} {σ : NS} {k : Int} {kt : Tok} {kn : Nat} (h : InvN w c M σ) (hM : M ≤ M') (k0 : 0 ≤ k) (k1 : k ≤ (M' : Int)) : InvN w c M' { σ with k := k, kt := kt, kn := kn } :=
  ⟨h.sym, h.off, h.dO, h.ok, h.dT, h.dT', h.tok, h.dS, h.sok, h.dP, h.pok, h.dst, k0, k1, h.f0, Int.le_trans h.f1 (by omega), Nat.le_trans h.zO hM, Nat.le_trans h.zT hM, Nat.le_trans h.zS hM, Nat.le_trans h.zP hM⟩
theorem namesL (hc : NCok c) (he : PCok c e) (hI : LawI w c e M r) (hM : M ≤ 400) :
    Spec w 24 989 [.ref c.dk, .ref c.set, .ref c.stt] (lawL w c e r) c.muts (fun v new => ∃ r', (v = .bool true ∧ LawI w c e (M + 10) r') ∧ ∀ p ∈ lawL w c e r', p ∈ new) := by
  obtain ⟨σ, π⟩ := r
  have hl : ∀ p ∈ PRest w c e π ++ π.l, p.1 ∉ c.muts := of_rest
    (idx_off (lawSD hc he) [11, 10, 12, 14, 13, 19, 20] [1, 2, 6, 7, 8, 9, 15, 16, 17, 18] rfl rfl (by decide))
    (OwnOff.not_in (OwnOff.both hI.p.off hI.d2 (idx_in [0, 3, 14, 15, 16, 17, 9, 18, 19, 20] rfl)))
  refine ((names_spec (hc.at π) hI.n (by omega)).frame hl).post (Nat.le_refl _) (fun _ h => h) ?_
  rintro v new ⟨n0, ⟨rfl, σ', hn, _, hm⟩, hf, rfl⟩
  have key : ∀ p ∈ σ'.l, (∀ b ∈ restP c e, p.1 ≠ b) ∧ ∀ q ∈ π.l, q.1 ≠ p.1 := fun p hp => by
    by_cases hF : p.1 ∈ (σ.heads w (c.at π) ++ σ.l).map (·.1)
    · rw [List.map_append] at hF
      rcases List.mem_append.mp hF with hF | hF
      · exact absurd rfl (hn.off p hp _ hF)
      · obtain ⟨q, hq, e'⟩ := List.mem_map.mp hF
        rw [← e']
        exact ⟨fun b hb => hI.d1 q hq b hb, fun t ht => hI.d3 q hq t ht⟩
    · have := hf p (hm p (List.mem_append_right _ hp)) hF
      refine ⟨fun b hb e' => ?_, fun q hq => this q (List.mem_append_right _ hq)⟩
      have hb' : b ∈ (PRest w c e π).map (·.1) := hb
      obtain ⟨q, hq, e2⟩ := List.mem_map.mp hb'
      exact this q (List.mem_append_left _ hq) (e2.trans e'.symm)
  refine ⟨⟨σ', { π with k := σ'.k, kt := σ'.kt, kn := σ'.kn, ost := σ'.ost }⟩, ⟨rfl, ⟨hn, ⟨hI.p.port, hI.p.off, hI.p.even.mono (by omega), hI.p.jcl, Nat.le_trans hI.p.bsz (by omega), hn.dst, hn.k0, hn.k1⟩, rfl, rfl, rfl, rfl, fun p hp => (key p hp).1, hI.d2, fun p hp => (key p hp).2⟩⟩, fun p hp => ?_⟩
  rcases List.mem_append.mp hp with q | q
  · exact List.mem_append_left _ (hm p q)
  · exact List.mem_append_right _ q
theorem writtenL (hc : NCok c) (he : PCok c e) (hI : LawI w c e M r) (hM : M ≤ 400) :
    Spec w 24 994 [.ref c.dk, .ref c.set, .ref e.sto, .ref c.stt] (lawL w c e r) ([c.dk, e.ptd, e.pr, c.stt, c.spl, c.srl] ++ r.π.l.map (·.1)) (fun v new => ∃ r', (v = .bool true ∧ LawI w c e (M + 10) r') ∧ ∀ p ∈ lawL w c e r', p ∈ new) := by
  obtain ⟨σ, π⟩ := r
  obtain ⟨k, kt, kn, f, tf, sf, T, its, nl, ob, l, kvO, oo, kvT, ot, os, kvS, oy, kvP, oq, ost, pf⟩ := σ
  obtain ⟨k9, kt9, kn9, jc, tc', d, nspl, nsrl, npr, bs, itp, pv, rv, lp, ost9⟩ := π
  have ek : k9 = k := hI.k
  have et : kt9 = kt := hI.kt
  have en : kn9 = kn := hI.kn
  have eo : ost9 = ost := hI.ost
  subst ek et en eo
  have hn := hI.n
  have hl : ∀ p ∈ NRest w c ⟨k9, kt9, kn9, f, tf, sf, T, its, nl, ob, l, kvO, oo, kvT, ot, os, kvS, oy, kvP, oq, ost9, pf⟩ ++ l, p.1 ∉ [c.dk, e.ptd, e.pr, c.stt, c.spl, c.srl] ++ lp.map (·.1) := fun p hp hm => by
    rcases List.mem_append.mp hm with hm | hm
    · exact of_rest (idx_off (lawSD hc he) [5, 4, 6, 7, 8, 9, 16, 17, 18] [1, 10, 12, 15, 19, 20] rfl rfl (by decide))
        (OwnOff.not_in (OwnOff.both hn.off hI.d1 (idx_in [0, 15, 16, 10, 19, 20] rfl))) p hp hm
    · obtain ⟨q, hq, e'⟩ := List.mem_map.mp hm
      rcases List.mem_append.mp hp with hp | hp
      · exact hI.d2 q hq p.1 (List.mem_map.mpr ⟨p, hp, rfl⟩) e'
      · exact hI.d3 p hp q hq e'
  refine (((written_spec (tf := tf) hc he hI.p hM).frame hl).sub (fp' := lawL w c e _) ?_).post (Nat.le_refl _) (fun _ h => h) ?_
  · intro p hp
    rcases List.mem_append.mp hp with hp | hp
    · rcases List.mem_append.mp hp with hp | hp
      · rcases List.mem_append.mp (idx_in (A := NS.heads w c ⟨k9, kt9, kn9, f, tf, sf, T, its, nl, ob, l, kvO, oo, kvT, ot, os, kvS, oy, kvP, oq, ost9, pf⟩ ++ PRest w c e ⟨k9, kt9, kn9, jc, tc', d, nspl, nsrl, npr, bs, itp, pv, rv, lp, ost9⟩) [0, 1, 2, 3, 14, 15, 16, 17, 18, 10, 19, 20] rfl p hp) with q | q
        · exact mem_hd q
        · exact mem_pr q
      · exact mem_pl hp
    · rcases List.mem_append.mp hp with hp | hp
      · exact mem_hd (idx_in [4, 5, 6, 7, 8, 9, 11, 12, 13] rfl p hp)
      · exact mem_sl hp
  rintro v new ⟨n0, ⟨rfl, π', hp', hm⟩, hf, rfl⟩
  have key : ∀ p ∈ π'.l, (∀ b ∈ restN c, p.1 ≠ b) ∧ ∀ q ∈ l, q.1 ≠ p.1 := fun p hp => by
    by_cases hF : p.1 ∈ (PS.heads w c e f tf ⟨k9, kt9, kn9, jc, tc', d, nspl, nsrl, npr, bs, itp, pv, rv, lp, ost9⟩ ++ lp).map (·.1)
    · rw [List.map_append] at hF
      rcases List.mem_append.mp hF with hF | hF
      · exact absurd rfl (hp'.off p hp _ hF)
      · obtain ⟨q, hq, e'⟩ := List.mem_map.mp hF
        rw [← e']
        exact ⟨fun b hb => hI.d2 q hq b hb, fun t ht => Ne.symm (hI.d3 t ht q hq)⟩
    · have := hf p (hm p (List.mem_append_right _ hp)) hF
      refine ⟨fun b hb e' => ?_, fun q hq => this q (List.mem_append_right _ hq)⟩
      have hb' : b ∈ (NRest w c ⟨k9, kt9, kn9, f, tf, sf, T, its, nl, ob, l, kvO, oo, kvT, ot, os, kvS, oy, kvP, oq, ost9, pf⟩).map (·.1) := hb
      obtain ⟨q, hq, e2⟩ := List.mem_map.mp hb'
      exact this q (List.mem_append_left _ hq) (e2.trans e'.symm)
  refine ⟨⟨⟨π'.k, π'.kt, π'.kn, f, tf, sf, T, its, nl, ob, l, kvO, oo, kvT, ot, os, kvS, oy, kvP, oq, π'.ost, pf⟩, π'⟩, ⟨rfl, ⟨⟨hn.sym, hn.off, hn.dO, hn.ok, hn.dT, hn.dT', hn.tok, hn.dS, hn.sok, hn.dP, hn.pok, hp'.dst, hp'.k0, hp'.k1, hn.f0, Int.le_trans hn.f1 (by omega), Nat.le_trans hn.zO (by omega), Nat.le_trans hn.zT (by omega), Nat.le_trans hn.zS (by omega), Nat.le_trans hn.zP (by omega)⟩, hp', rfl, rfl, rfl, rfl, hI.d1, fun p hp => (key p hp).1, fun p hp q hq => Ne.symm ((key q hq).2 p hp)⟩⟩, fun p hp => ?_⟩
  have hh : ∀ q, q ∈ PS.heads w c e f tf π' → q ∈ n0 := fun q hq => hm q (List.mem_append_left _ hq)
  rcases List.mem_append.mp hp with hp | hp
  · rcases List.mem_append.mp hp with hp | hp
    · rcases List.mem_append.mp (idx_in (A := PS.heads w c e f tf π' ++ NRest w c ⟨k9, kt9, kn9, f, tf, sf, T, its, nl, ob, l, kvO, oo, kvT, ot, os, kvS, oy, kvP, oq, ost9, pf⟩) [0, 1, 2, 3, 12, 13, 14, 15, 16, 17, 9, 18, 19, 20] rfl p hp) with q | q
      · exact List.mem_append_left _ (hh p q)
      · exact List.mem_append_right _ (List.mem_append_left _ q)
    · exact List.mem_append_right _ (List.mem_append_right _ hp)
  · rcases List.mem_append.mp hp with hp | hp
    · exact List.mem_append_left _ (hh p (idx_in [4, 5, 6, 7, 8, 10, 11] rfl p hp))
    · exact List.mem_append_left _ (hm p (List.mem_append_right _ hp))
theorem drawL {many : Int} {u : Tok} (hc : NCok c) (he : PCok c e) (hI : LawI w c e M r) (hM : M ≤ 400) (hm0 : 1 ≤ many) (hm1 : many ≤ 1000) :
    Spec w 2 984 [.ref c.dk, .int many u] (lawL w c e r) [c.dk] (fun v new => ∃ r', ((∃ i t, v = .int i t ∧ 0 ≤ i ∧ i < many) ∧ LawI w c e (M + 1) r') ∧ ∀ p ∈ lawL w c e r', p ∈ new) := by
  obtain ⟨σ, π⟩ := r
  have hn := hI.n
  have hp := hI.p
  have q0 : 0 ≤ σ.k := hn.k0
  have q1 : σ.k ≤ (M : Int) := hn.k1
  have q2 : 0 ≤ σ.k + 1 := by omega
  have q3 : σ.k + 1 ≤ ((M + 1 : Nat) : Int) := by omega
  have hl : ∀ p ∈ ((σ.heads w c).drop 2 ++ σ.l) ++ (PRest w c e π ++ π.l), p.1 ∉ [c.dk] := fun p h => by
    rcases List.mem_append.mp h with h | h
    · exact of_rest (idx_off (lawSD hc he) [3, 2, 5, 4, 6, 7, 8, 9, 15, 16, 17, 18] [1] rfl rfl (by decide)) (OwnOff.not_in (OwnOff.sub hn.off (idx_in [0] rfl))) p h
    · exact of_rest (idx_off (lawSD hc he) [11, 10, 12, 14, 13, 19, 20] [1] rfl rfl (by decide)) (OwnOff.not_in (OwnOff.sub hp.off (idx_in [0] rfl))) p h
  refine ((draw_spec hc.hi hc.hlo hc.hhi hc.hb q0 (by omega) hm0 hm1 (Ne.symm (Nat.ne_of_lt hc.c0))).frame hl).post (Nat.le_refl _) (fun _ h => h) ?_
  rintro v new ⟨n0, ⟨i, t', t'', n', rfl, h0, h1, rfl⟩, _, rfl⟩
  refine ⟨⟨{ σ with k := σ.k + 1, kt := t'', kn := n' }, { π with k := σ.k + 1, kt := t'', kn := n' }⟩, ⟨⟨i, t', rfl, h0, h1⟩, ⟨hn.mono (by omega) q2 q3, ⟨hp.port, hp.off, hp.even.mono (by omega), hp.jcl, Nat.le_trans hp.bsz (by omega), hp.dst, q2, q3⟩, rfl, rfl, rfl, hI.ost, hI.d1, hI.d2, hI.d3⟩⟩, fun p hp => hp⟩
theorem law_use {n : Nat} {f : Addr} {vs : List Value} {mt : List Addr} {P : Value → LS → Prop} {J : Led}
    {dp un : Nat} {gd : Option (List Code)} {env : Env} {outer : List Env} {A₀ : Around} {base h₀ : Heap} {L : Addr} {m : Str → Option Value} {mean : ExcName → Option Value} {mg mb : Str → Option Value} {s : Shared} {Q E : Value → Shared → Prop}
    (C : Spec w n f vs (lawL w c e r) mt (fun v new => ∃ r', P v r' ∧ ∀ p ∈ lawL w c e r', p ∈ new)) (hm : ∀ a ∈ mt, a ∈ (lawL w c e r).map (·.1))
    (B : Below A₀ base outer h₀) (F : Fr h₀ L s.heap m) (X : (KF w.params).In h₀) (N : News h₀ L s.heap (J ++ lawL w c e r)) (T : Top q LZ mean mg mb h₀) (hf : env.frame = some L) (hk : env.scope.kind = .function) (hd : dp + n < recursionLimit) (hu : un + 8 * n < cLine)
    (off : ∀ q ∈ J, ∀ p ∈ lawL w c e r, p.1 ≠ q.1)
    (h : ∀ v r' h' tk', P v r' → Fr h₀ L h' m → News h₀ L h' (J ++ lawL w c e r') → (∀ q ∈ J, ∀ p ∈ lawL w c e r', p.1 ≠ q.1) → Q v { s with heap := h', toks := tk' }) :
    wpAny (model PG w) (top dp un gd env outer) (call (.ref f) vs) Q E s :=
  C dp un gd env outer A₀ base h₀ L m mean mg mb s Q E B F X (fun p hp => N p (List.mem_append_right _ hp)) T hf hk hd hu (fun v new h' tk' hP F' N' K' Y' => by
    obtain ⟨r', h1, h2⟩ := hP
    have NJ : News h₀ L s.heap J := fun p hp => N p (List.mem_append_left _ hp)
    refine h v r' h' tk' h1 F' (fun p hp => ?_) (fun q hq p hp e' => ?_)
    · rcases List.mem_append.mp hp with hp | hp
      · refine News.over NJ K' (fun q hq hm' => ?_) p hp
        obtain ⟨t, ht, e'⟩ := List.mem_map.mp (hm _ hm')
        exact off q hq t ht e'
      · exact N' p (h2 p hp)
    · by_cases hF : p.1 ∈ (lawL w c e r).map (·.1)
      · obtain ⟨t, ht, e2⟩ := List.mem_map.mp hF
        exact off q hq t ht (e2.trans e')
      · exact Fresh.apart Y' NJ (h2 p hp) hF q hq e'.symm)
theorem drawM : ∀ a ∈ [c.dk], a ∈ (lawL w c e r).map (·.1) := idx_in (A := (lawL w c e r).map (·.1)) [0] rfl
theorem namesM : ∀ a ∈ c.muts, a ∈ (lawL w c e r).map (·.1) := idx_in (A := (lawL w c e r).map (·.1)) [0, 3, 6, 7, 8, 9, 10, 11, 12, 13] rfl
theorem writtenM : ∀ a ∈ [c.dk, e.ptd, e.pr, c.stt, c.spl, c.srl] ++ r.π.l.map (·.1), a ∈ (lawL w c e r).map (·.1) := fun a ha => by
  rcases List.mem_append.mp ha with ha | ha
  · have : a ∈ (r.σ.heads w c ++ PRest w c e r.π).map (·.1) := idx_in [0, 15, 16, 10, 19, 20] rfl a ha
    obtain ⟨p, hp, rfl⟩ := List.mem_map.mp this
    rcases List.mem_append.mp hp with q | q
    · exact List.mem_map.mpr ⟨p, mem_hd q, rfl⟩
    · exact List.mem_map.mpr ⟨p, mem_pr q, rfl⟩
  · obtain ⟨p, hp, rfl⟩ := List.mem_map.mp ha
    exact List.mem_map.mpr ⟨p, mem_pl hp, rfl⟩
end
theorem news_sub {h₀ h : Heap} {L : Addr} {l l' : Led} (N : News h₀ L h l) (hs : ∀ p ∈ l', p ∈ l) : News h₀ L h l' := News.sub N hs
theorem law_start {w : World} {h₀ h : Heap} {L : Addr} {news : Led} {dk ce set sd tab dt rl bd ti op pt stt sy sti sop spl srl ptd pr fd sto std pa pd ca la ia : Addr} {ws : List Value} {ns : List Int} {z : SZ} {kt tf sf tc ta tb qa qb qc d qe qf s1 b1 b2 b3 : Tok} {kn nc n nl npr s2 nspl nsrl n4 nca nla : Nat} {ob ot oo ost oy os oq : Obj}
    (hst : ost.IsDictOf (SK w) (stKV sy sti sop spl srl 0 sf 0 tc)) (N : News h₀ L h news)
    (hs : ∀ p ∈ [(dk, W.listOf #[Value.ref ce, Value.int 0 kt] kn), (ce, W.listOf ws.toArray nc), (set, instObj 598 sd), (sd, setObj w tab ti op pt 0 tf z), (tab, instObj 128 dt), (dt, tabObj w rl bd ta tb n), (rl, W.listOf #[] nl), (bd, ob), (ti, ot), (op, oo), (stt, ost), (sy, oy), (sti, os), (sop, oq), (pt, instObj 506 ptd), (ptd, ptObj w pr fd 0 qa qb qc d qe qf 4), (pr, W.listOf #[Value.ref pa, Value.ref ia] npr), (sto, instObj 967 std), (std, stoObj w tab s1 s2), (spl, W.listOf #[] nspl), (srl, W.listOf #[Value.ref la] nsrl), (pa, instObj 422 pd), (pd, portObj w ca b1 b2 b3 n4), (ca, W.listOf #[] nca), (la, W.listOf #[] nla)], p ∈ news)
    (hsd : SD [ce, dk, sd, set, dt, tab, rl, bd, ti, op, ptd, pt, ca, pd, pa, pr, std, sto, stt, sy, sti, sop, spl, la, srl])
    (h1 : IntsAre ws ns) (h2 : 1 ≤ ns.length) (h3 : ns.length ≤ 41) (h4 : ∀ x ∈ ns, 0 ≤ x ∧ x ≤ 1000003)
    (d1 : ob.IsDictOf (SK w) []) (d2 : ot.IsDictOf (IK w) []) (d3 : oo.IsDictOf (IK w) []) (d4 : oy.IsDictOf (SK w) []) (d5 : os.IsDictOf (IK w) []) (d6 : oq.IsDictOf (SK w) [])
    (lo1 : (bd == sysModules) = false) (lo2 : (ti == sysModules) = false) (lo3 : (op == sysModules) = false) (lo4 : (stt == sysModules) = false) (lo5 : (sy == sysModules) = false) (lo6 : (sti == sysModules) = false) (lo7 : (sop == sysModules) = false) :
    ∃ (c : NC) (e : PC) (r : LS), c.dk = dk ∧ c.set = set ∧ e.sto = sto ∧ c.stt = stt ∧ NCok c ∧ PCok c e ∧ LawI w c e 0 r ∧ News h₀ L h (lawL w c e r) := by
  have lt : ∀ (i j : Nat) (a b : Nat), [ce, dk, sd, set, dt, tab, rl, bd, ti, op, ptd, pt, ca, pd, pa, pr, std, sto, stt, sy, sti, sop, spl, la, srl][i]? = some a → [ce, dk, sd, set, dt, tab, rl, bd, ti, op, ptd, pt, ca, pd, pa, pr, std, sto, stt, sy, sti, sop, spl, la, srl][j]? = some b → i < j → a < b := fun i j a b ha hb hij => by
    obtain ⟨l1, e1⟩ := List.getElem?_eq_some_iff.mp ha
    obtain ⟨l2, e2⟩ := List.getElem?_eq_some_iff.mp hb
    have := List.pairwise_iff_getElem.mp hsd i j l1 l2 hij
    rw [e1, e2] at this; exact this
  have hcd : @LT.lt Nat _ ca pd := lt 12 13 _ _ rfl rfl (by decide)
  have hpd : @LT.lt Nat _ pd pa := lt 13 14 _ _ rfl rfl (by decide)
  have hal : @LT.lt Nat _ pa la := lt 14 23 _ _ rfl rfl (by decide)
  have hcl : @LT.lt Nat _ ca la := lt 12 23 _ _ rfl rfl (by decide)
  have hca : @LT.lt Nat _ ca pa := lt 12 14 _ _ rfl rfl (by decide)
  have hdl : @LT.lt Nat _ pd la := lt 13 23 _ _ rfl rfl (by decide)
  refine ⟨⟨dk, ce, set, sd, tab, dt, rl, bd, ti, op, pt, stt, sy, sti, sop, spl, srl, ws, ns, nc, z, ta, tb, n, 0, tc⟩, ⟨ptd, pr, fd, sto, std, qa, qb, qc, qe, qf, s1, s2⟩,
    ⟨⟨0, kt, kn, 0, tf, sf, [], #[], nl, ob, [], [], oo, [], ot, os, [], oy, [], oq, ost, fun _ => none⟩,
     ⟨0, kt, kn, 0, tc, d, nspl, nsrl, npr, [⟨pa, pa, pa, pd, ca, la, b1, b1, b1, b2, b3, 0, n4, nca, nla, [], [], [], []⟩], #[.ref pa, .ref ia], #[], #[.ref la], [(pa, instObj 422 pd), (pd, portObj w ca b1 b2 b3 n4), (ca, W.listOf #[] nca), (la, W.listOf #[] nla)], ost⟩⟩, rfl, rfl, rfl, rfl,
    ⟨h1, h2, h3, h4, lt 0 1 _ _ rfl rfl (by decide), lt 1 2 _ _ rfl rfl (by decide), lt 2 3 _ _ rfl rfl (by decide), lt 3 4 _ _ rfl rfl (by decide), lt 4 5 _ _ rfl rfl (by decide), lt 5 6 _ _ rfl rfl (by decide), lt 6 7 _ _ rfl rfl (by decide), lt 7 8 _ _ rfl rfl (by decide), lt 8 9 _ _ rfl rfl (by decide), lt 9 18 _ _ rfl rfl (by decide), lt 18 19 _ _ rfl rfl (by decide), lt 19 20 _ _ rfl rfl (by decide), lt 20 21 _ _ rfl rfl (by decide), lo1, lo2, lo3, lo4, lo5, lo6, lo7⟩,
    ⟨lt 9 10 _ _ rfl rfl (by decide), lt 10 11 _ _ rfl rfl (by decide), lt 11 15 _ _ rfl rfl (by decide), lt 15 16 _ _ rfl rfl (by decide), lt 16 17 _ _ rfl rfl (by decide), lt 17 18 _ _ rfl rfl (by decide), lt 21 22 _ _ rfl rfl (by decide), lt 22 24 _ _ rfl rfl (by decide)⟩,
    ⟨⟨⟨.nil, fun _ h => (nomatch h), rfl, fun _ _ h => (nomatch h), [], d1, Nat.le_refl _, fun _ _ => rfl, fun _ _ h => (nomatch h)⟩, fun _ h => (nomatch h), d3, ⟨fun _ _ h => (nomatch h), fun _ _ => rfl, fun _ _ => rfl⟩, d2, d5, fun _ h => (nomatch h), d4, fun _ h => (nomatch h), d6, fun _ => rfl, hst, Int.le_refl _, Int.le_refl _, Int.le_refl _, Int.le_refl _, Nat.le_refl _, Nat.le_refl _, Nat.le_refl _, Nat.le_refl _⟩,
      ⟨⟨?nd, rfl, rfl, rfl, ?row, fun _ _ h => (nomatch h), ?sep⟩, ?off, ?even, Nat.one_pos, Nat.le_refl _, hst, Int.le_refl _, Int.le_refl _⟩, rfl, rfl, rfl, rfl, fun _ h => (nomatch h), ?d2, fun _ h => (nomatch h)⟩,
    News.sub N (fun p hp => hs p ?mem)⟩
  case nd =>
    have h0 : ∀ a b : Nat, a < b → b ≠ a := fun _ _ h => Nat.ne_of_gt h
    have : ([pa, pd, ca, la] : List Nat).Nodup := by
      simp only [List.nodup_cons, List.mem_cons, List.not_mem_nil, or_false, not_or, List.nodup_nil, and_true, not_false_eq_true]
      exact ⟨⟨h0 _ _ hpd, h0 _ _ hca, Nat.ne_of_lt hal⟩, ⟨h0 _ _ hcd, Nat.ne_of_lt hdl⟩, Nat.ne_of_lt hcl⟩
    exact this
  case row =>
    intro j b hb
    match j, hb with
    | 0, hb =>
      cases hb
      exact ⟨rfl, .head _, .tail _ (.head _), .tail _ (.tail _ (.head _)), .tail _ (.tail _ (.tail _ (.head _))), rfl, .nil, .nil⟩
    | j + 1, hb => nomatch hb
  case sep =>
    intro i j b d' hb hd
    match i, j, hb, hd with
    | 0, 0, hb, hd =>
      cases hb; cases hd
      exact ⟨Nat.ne_of_lt hcl, fun h => absurd rfl h⟩
    | 0, j + 1, _, hd => nomatch hd
    | i + 1, _, hb, _ => nomatch hb
  case even =>
    intro b hb
    rw [List.mem_singleton.mp hb]
    exact ⟨rfl, Nat.le_refl _, fun _ h => nomatch h⟩
  case off => exact fun p hp b hb e => idx_off hsd [14, 13, 12, 23] [1, 0, 3, 2, 11, 10, 15, 17, 16, 18, 22, 24] (A := [pa, pd, ca, la]) rfl rfl (by decide) p.1 (tail_adr hp) (e ▸ hb)
  case d2 => exact fun p hp b hb e => idx_off hsd [14, 13, 12, 23] [5, 4, 6, 7, 8, 9, 19, 20, 21] (A := [pa, pd, ca, la]) rfl rfl (by decide) p.1 (tail_adr hp) (e ▸ hb)
  case mem => exact hp
theorem deck_bound {xs : List Int} (h : xs.length ≤ 63) : ∀ x ∈ (xs.take 40).map (fun k' : Int => (if k' < 0 then -k' else k').fmod 1000003) ++ [(xs.length : Int) + 5], 0 ≤ x ∧ x ≤ 1000003 := fun x hx => by
  rcases List.mem_append.mp hx with hx | hx
  · obtain ⟨k, _, rfl⟩ := List.mem_map.mp hx
    exact ⟨Int.fmod_nonneg_of_pos _ (by decide), Int.le_of_lt (Int.fmod_lt_of_pos _ (by decide))⟩
  · rw [List.mem_singleton.mp hx]; omega


theorem lt_tail {N news : Led} {D : Addr} (h : ∀ p ∈ N, p.1 < D) (hs : ∀ p ∈ news, p ∈ N) : ∀ p ∈ news, p.1 < D := fun p hp => h p (hs p hp)
theorem lt_tail2 {N news : Led} {D X : Addr} (hX : @LT.lt Nat _ D X) (h : ∀ p ∈ N, p.1 < D) (hs : ∀ p ∈ news, p ∈ N) : ∀ p ∈ news, p.1 < X := fun p hp => Nat.lt_trans (h p (hs p hp)) hX

set_option maxHeartbeats 4000000 in
theorem table_use {w : World} 
    {dp un : Nat} {gd : Option (List Code)} {env : Env} {outer : List Env} {A₀ : Around} {base h₀ : Heap} {L : Addr} {m : Str → Option Value} {mean : ExcName → Option Value} {mg mb : Str → Option Value} {s : Shared} {Q E : Value → Shared → Prop} {news : Led}
    (B : Below A₀ base outer h₀) (F : Fr h₀ L s.heap m) (X : (KF w.params).In h₀) (N : News h₀ L s.heap news) (T₀ : Top q LZ mean mg mb h₀) (hf : env.frame = some L) (hk : env.scope.kind = .function) (hd : dp + 6 < recursionLimit) (hu : un + 8 * 6 < cLine)
    (h : ∀ (tab dt rl bd : Addr) (ta tb : Tok) (ob : Obj) h' tk', (∀ p ∈ news, p.1 < dt) → (∀ p ∈ news, p.1 < tab) → (∀ p ∈ news, p.1 < rl) → (∀ p ∈ news, p.1 < bd) → (@LT.lt Nat _ dt tab) → (@LT.lt Nat _ tab rl) → (@LT.lt Nat _ rl bd) → (bd == sysModules) = false → ob.IsDictOf (SK w) [] → Fr h₀ L h' m → News h₀ L h' ((bd, ob) :: (rl, W.listOf #[] 0) :: (tab, instObj 128 dt) :: (dt, tabObj w rl bd ta tb 2) :: news) → Q (.ref tab) { s with heap := h', toks := tk' }) :
    wpAny (model PG w) (top dp un gd env outer) (call (.ref 128) []) Q E s := by
  w_on
  (repeat' ((fail_if_success (with_reducible show Hold _)); first | (k_unfold; (try dsimp only)) | (k_end; first | kc_close | wrow_close) | ((with_reducible show wpAny _ _ (call _ _) _ _ _); (try dsimp only); first | ((with_reducible show wpAny _ _ (call (Value.builtin "dict.get") _) _ _ _); k_dflt (first | (refine kdg_get2 (knd := PySem.strKind _ _) (by k_asm) (by k_mem) (by k_asm) (by k_asm) (strKind_is _ _ _ _) _ (by assumption) ?_) | (refine kdg_get2 (knd := intKind _ _) (by k_asm) (by k_mem) (by k_asm) (by k_asm) (intKind_is _ _ _ _) _ (by assumption) ?_)); (try dsimp only [Option.getD])) | ((with_reducible show wpAny _ _ (call (Value.builtin "len") [Value.ref _]) _ _ _); k_dflt (refine' len_M ?k1 ?k2 ?k3 ?_; (case k1 => k_asm); (case k2 => k_mem); (case k3 => first | assumption | (simp only [Array.size_push]; omega)); k_whole); (try dsimp only)) | ((try dsimp only [List.nil_append, List.cons_append]); (with_reducible show wpAny _ _ (call (Value.builtin "list.append") [Value.ref _, _]) _ _ _); k_dflt (refine' append_M ?k1 ?k2 ?k3 ?z ?_; (case k1 => k_asm); (case k2 => k_asm); (case k3 => k_upd); (case z => first | assumption | omega); k_whole); intros; (try k_sweep)) | ((try dsimp only [List.nil_append, List.cons_append]); (with_reducible show wpAny _ _ (call (Value.builtin "list.extend") [Value.ref _, Value.ref _]) _ _ _); k_dflt (refine' extend_M ?k1 ?k2 ?k4 ?k3 ?z ?_; (case k1 => k_asm); (case k2 => k_asm); (case k4 => k_mem); (case k3 => k_upd); (case z => first | assumption | omega); k_whole); intros; (try k_sweep))) | ((with_reducible show wpAny _ _ (subscriptTail _ _ _ _) _ _ _); (try dsimp only); first | ((with_reducible show wpAny _ _ (subscriptTail _ _ (Value.ref _) (Value.int _ _)) _ _ _); k_dflt (refine' item_M ?k1 ?k2 ?k4 ?k5 ?k3 ?_ ?k6; (case k1 => k_asm); (case k2 => k_mem); (case k3 => assumption); (case k4 => first | with_reducible assumption | omega); (case k5 => first | with_reducible assumption | omega); (case k6 => with_unfolding_all rfl); k_whole))) | ((with_reducible show wpAny _ _ (setItem _ _ _) _ _ _); (try dsimp only); first | ((with_reducible show wpAny _ _ (setItem (Value.ref _) _ _) _ _ _); k_dflt (first | (refine' kda_set (knd := PySem.strKind _ _) ?k1 ?k2 ?k3 ?k4 (strKind_is _ _ _ _) ?k5 ?_; (case k1 => k_asm); (case k2 => k_asm); (case k3 => k_updF); (case k4 => k_asm); (case k5 => exact small_line (by assumption)); k_whole) | (refine' kda_set (knd := intKind _ _) ?k1 ?k2 ?k3 ?k4 (intKind_is _ _ _ _) ?k5 ?_; (case k1 => k_asm); (case k2 => k_asm); (case k3 => k_updF); (case k4 => k_asm); (case k5 => exact small_line (by assumption)); k_whole)); walk_at "kq3"; (try k_sweep))) | ((with_reducible show wpAny _ _ (eval (PySem.Expr.Dict _ _ _) _) _ _ _); k_dflt (refine' newDict_K ?k1 ?k2 ?k3 ?_; (case k1 => k_asm); (case k2 => k_asm); (case k3 => exact TopRead.nolimit (by k_asm)); k_whole); intros; (try k_sweep)) | ((with_reducible show wpAny _ _ (eval (PySem.Expr.Name _ _) (envOf _ _ _ _ _)) _ _ _); first | k_dflt (refine' ld ?k1 ?k2 ?_; (case k1 => k_asm); (case k2 => exact rfl); k_whole) | (with_unfolding_all refine guard_global (by rfl) ?_; k_dflt (refine' name_K ?kF ?k1 ?k2 ?k3 ?_; (case kF => k_asm); (case k1 => k_asm); (case k2 => k_asm); (case k3 => k_is); k_whole))) | walk1 | (dsimp only; walk1) | (leave1; try dsimp only)))
  refine' h _ _ _ _ _ _ _ _ _ ?a0 ?a1 ?a2 ?a3 ?a4 ?a5 ?a6 ?a7 ?a8 ?zf ?zn
  case zf => k_asm
  case zn => first | k_asm | (rename News _ _ _ _ => NN; exact News.sub (by k_asm) (by repeat' (first | (with_reducible refine fac ?_ ?_) | tb_rel | ((with_reducible show _ ∈ _); k_memK) | (intro p' hp'; (repeat (with_reducible apply kfs5)); (repeat (with_reducible apply mt)); exact hp'))))
  all_goals (first
  | with_reducible assumption
  | exact lt_tail (by with_reducible assumption) (by intro p' hp'; (repeat (with_reducible apply kfs5)); (repeat (with_reducible apply mt)); exact hp')
  | exact lt_tail2 (by with_reducible assumption) (by with_reducible assumption) (by intro p' hp'; (repeat (with_reducible apply kfs5)); (repeat (with_reducible apply mt)); exact hp')
  | ((with_reducible apply at_lt); (with_reducible assumption); k_memK)
  | ((with_reducible apply at_lt_lt); (with_reducible assumption); (with_reducible assumption); k_memK)
  | (show _ ∧ _; refine ⟨?_, ?_⟩))

set_option maxHeartbeats 4000000 in
theorem ports_use {w : World} 
    {dp un : Nat} {gd : Option (List Code)} {env : Env} {outer : List Env} {A₀ : Around} {base h₀ : Heap} {L : Addr} {m : Str → Option Value} {mean : ExcName → Option Value} {mg mb : Str → Option Value} {s : Shared} {Q E : Value → Shared → Prop} {news : Led}
    (B : Below A₀ base outer h₀) (F : Fr h₀ L s.heap m) (X : (KF w.params).In h₀) (N : News h₀ L s.heap news) (T₀ : Top q LZ mean mg mb h₀) (hf : env.frame = some L) (hk : env.scope.kind = .function) (hd : dp + 8 < recursionLimit) (hu : un + 8 * 8 < cLine)
    (h : ∀ (ptd pt ca pd pa ia pr fd : Addr) (qa qb qc d qe qf b1 b2 b3 : Tok) h' tk', (∀ p ∈ news, p.1 < ptd) → (∀ p ∈ news, p.1 < pt) → (∀ p ∈ news, p.1 < ca) → (∀ p ∈ news, p.1 < pd) → (∀ p ∈ news, p.1 < pa) → (∀ p ∈ news, p.1 < pr) → (@LT.lt Nat _ ptd pt) → (@LT.lt Nat _ pt ca) → (@LT.lt Nat _ ca pd) → (@LT.lt Nat _ pd pa) → (@LT.lt Nat _ pa pr) → Fr h₀ L h' m → News h₀ L h' ((pr, W.listOf #[.ref pa, .ref ia] 0) :: (pa, instObj 422 pd) :: (pd, portObj w ca b1 b2 b3 3) :: (ca, W.listOf #[] 0) :: (pt, instObj 506 ptd) :: (ptd, ptObj w pr fd 0 qa qb qc d qe qf 4) :: news) → Q (.ref pt) { s with heap := h', toks := tk' }) :
    wpAny (model PG w) (top dp un gd env outer) (call (.ref 506) []) Q E s := by
  w_on
  (repeat' ((fail_if_success (with_reducible show Hold _)); first | (k_unfold; (try dsimp only)) | (k_end; first | kc_close | wrow_close) | ((with_reducible show wpAny _ _ (call _ _) _ _ _); (try dsimp only); first | ((with_reducible show wpAny _ _ (call (Value.builtin "dict.get") _) _ _ _); k_dflt (first | (refine kdg_get2 (knd := PySem.strKind _ _) (by k_asm) (by k_mem) (by k_asm) (by k_asm) (strKind_is _ _ _ _) _ (by assumption) ?_) | (refine kdg_get2 (knd := intKind _ _) (by k_asm) (by k_mem) (by k_asm) (by k_asm) (intKind_is _ _ _ _) _ (by assumption) ?_)); (try dsimp only [Option.getD])) | ((with_reducible show wpAny _ _ (call (Value.builtin "len") [Value.ref _]) _ _ _); k_dflt (refine' len_M ?k1 ?k2 ?k3 ?_; (case k1 => k_asm); (case k2 => k_mem); (case k3 => first | assumption | (simp only [Array.size_push]; omega)); k_whole); (try dsimp only)) | ((try dsimp only [List.nil_append, List.cons_append]); (with_reducible show wpAny _ _ (call (Value.builtin "list.append") [Value.ref _, _]) _ _ _); k_dflt (refine' append_M ?k1 ?k2 ?k3 ?z ?_; (case k1 => k_asm); (case k2 => k_asm); (case k3 => k_upd); (case z => first | assumption | omega); k_whole); intros; (try k_sweep)) | ((try dsimp only [List.nil_append, List.cons_append]); (with_reducible show wpAny _ _ (call (Value.builtin "list.extend") [Value.ref _, Value.ref _]) _ _ _); k_dflt (refine' extend_M ?k1 ?k2 ?k4 ?k3 ?z ?_; (case k1 => k_asm); (case k2 => k_asm); (case k4 => k_mem); (case k3 => k_upd); (case z => first | assumption | omega); k_whole); intros; (try k_sweep))) | ((with_reducible show wpAny _ _ (subscriptTail _ _ _ _) _ _ _); (try dsimp only); first | ((with_reducible show wpAny _ _ (subscriptTail _ _ (Value.ref _) (Value.int _ _)) _ _ _); k_dflt (refine' item_M ?k1 ?k2 ?k4 ?k5 ?k3 ?_ ?k6; (case k1 => k_asm); (case k2 => k_mem); (case k3 => assumption); (case k4 => first | with_reducible assumption | omega); (case k5 => first | with_reducible assumption | omega); (case k6 => with_unfolding_all rfl); k_whole))) | ((with_reducible show wpAny _ _ (setItem _ _ _) _ _ _); (try dsimp only); first | ((with_reducible show wpAny _ _ (setItem (Value.ref _) _ _) _ _ _); k_dflt (first | (refine' kda_set (knd := PySem.strKind _ _) ?k1 ?k2 ?k3 ?k4 (strKind_is _ _ _ _) ?k5 ?_; (case k1 => k_asm); (case k2 => k_asm); (case k3 => k_updF); (case k4 => k_asm); (case k5 => exact small_line (by assumption)); k_whole) | (refine' kda_set (knd := intKind _ _) ?k1 ?k2 ?k3 ?k4 (intKind_is _ _ _ _) ?k5 ?_; (case k1 => k_asm); (case k2 => k_asm); (case k3 => k_updF); (case k4 => k_asm); (case k5 => exact small_line (by assumption)); k_whole)); walk_at "kq3"; (try k_sweep))) | ((with_reducible show wpAny _ _ (eval (PySem.Expr.Dict _ _ _) _) _ _ _); k_dflt (refine' newDict_K ?k1 ?k2 ?k3 ?_; (case k1 => k_asm); (case k2 => k_asm); (case k3 => exact TopRead.nolimit (by k_asm)); k_whole); intros; (try k_sweep)) | ((with_reducible show wpAny _ _ (eval (PySem.Expr.Name _ _) (envOf _ _ _ _ _)) _ _ _); first | k_dflt (refine' ld ?k1 ?k2 ?_; (case k1 => k_asm); (case k2 => exact rfl); k_whole) | (with_unfolding_all refine guard_global (by rfl) ?_; k_dflt (refine' name_K ?kF ?k1 ?k2 ?k3 ?_; (case kF => k_asm); (case k1 => k_asm); (case k2 => k_asm); (case k3 => k_is); k_whole))) | walk1 | (dsimp only; walk1) | (leave1; try dsimp only)))
  refine' h _ _ _ _ _ _ _ _ _ _ _ _ _ _ _ _ _ _ _ ?a0 ?a1 ?a2 ?a3 ?a4 ?a5 ?a6 ?a7 ?a8 ?a9 ?a10 ?zf ?zn
  case zf => k_asm
  case zn => first | k_asm | (rename News _ _ _ _ => NN; exact News.sub (by k_asm) (by repeat' (first | (with_reducible refine fac ?_ ?_) | tb_rel | ((with_reducible show _ ∈ _); k_memK) | (intro p' hp'; (repeat (with_reducible apply kfs5)); (repeat (with_reducible apply mt)); exact hp'))))
  all_goals (first
  | with_reducible assumption
  | exact lt_tail (by with_reducible assumption) (by intro p' hp'; (repeat (with_reducible apply kfs5)); (repeat (with_reducible apply mt)); exact hp')
  | exact lt_tail2 (by with_reducible assumption) (by with_reducible assumption) (by intro p' hp'; (repeat (with_reducible apply kfs5)); (repeat (with_reducible apply mt)); exact hp')
  | ((with_reducible apply at_lt); (with_reducible assumption); k_memK)
  | ((with_reducible apply at_lt_lt); (with_reducible assumption); (with_reducible assumption); k_memK)
  | (show _ ∧ _; refine ⟨?_, ?_⟩))

set_option maxHeartbeats 4000000 in
theorem store_use {w : World} {tab : Addr}
    {dp un : Nat} {gd : Option (List Code)} {env : Env} {outer : List Env} {A₀ : Around} {base h₀ : Heap} {L : Addr} {m : Str → Option Value} {mean : ExcName → Option Value} {mg mb : Str → Option Value} {s : Shared} {Q E : Value → Shared → Prop} {news : Led}
    (B : Below A₀ base outer h₀) (F : Fr h₀ L s.heap m) (X : (KF w.params).In h₀) (N : News h₀ L s.heap news) (T₀ : Top q LZ mean mg mb h₀) (hf : env.frame = some L) (hk : env.scope.kind = .function) (hd : dp + 6 < recursionLimit) (hu : un + 8 * 6 < cLine)
    (h : ∀ (sto std : Addr) (s1 : Tok) h' tk', (∀ p ∈ news, p.1 < std) → (∀ p ∈ news, p.1 < sto) → (@LT.lt Nat _ std sto) → Fr h₀ L h' m → News h₀ L h' ((sto, instObj 967 std) :: (std, stoObj w tab s1 1) :: news) → Q (.ref sto) { s with heap := h', toks := tk' }) :
    wpAny (model PG w) (top dp un gd env outer) (call (.ref 967) [.ref tab]) Q E s := by
  w_on
  (repeat' ((fail_if_success (with_reducible show Hold _)); first | (k_unfold; (try dsimp only)) | (k_end; first | kc_close | wrow_close) | ((with_reducible show wpAny _ _ (call _ _) _ _ _); (try dsimp only); first | ((with_reducible show wpAny _ _ (call (Value.ref 128) _) _ _ _); k_dflt (refine' table_use ?kB ?kF ?kX ?kN ?kT ?kf ?kk ?kd ?ku ?_; (case kB => k_asm); (case kF => k_asm); (case kX => k_asm); (case kN => k_asm); (case kT => k_asm); (case kf => first | exact rfl | assumption); (case kk => first | exact rfl | assumption); (case kd => k_room); (case ku => k_units); k_whole); intros; (try dsimp only); (try k_sweep)) | ((with_reducible show wpAny _ _ (call (Value.ref 506) _) _ _ _); k_dflt (refine' ports_use ?kB ?kF ?kX ?kN ?kT ?kf ?kk ?kd ?ku ?_; (case kB => k_asm); (case kF => k_asm); (case kX => k_asm); (case kN => k_asm); (case kT => k_asm); (case kf => first | exact rfl | assumption); (case kk => first | exact rfl | assumption); (case kd => k_room); (case ku => k_units); k_whole); intros; (try dsimp only); (try k_sweep)) | ((with_reducible show wpAny _ _ (call (Value.builtin "dict.get") _) _ _ _); k_dflt (first | (refine kdg_get2 (knd := PySem.strKind _ _) (by k_asm) (by k_mem) (by k_asm) (by k_asm) (strKind_is _ _ _ _) _ (by assumption) ?_) | (refine kdg_get2 (knd := intKind _ _) (by k_asm) (by k_mem) (by k_asm) (by k_asm) (intKind_is _ _ _ _) _ (by assumption) ?_)); (try dsimp only [Option.getD])) | ((with_reducible show wpAny _ _ (call (Value.builtin "len") [Value.ref _]) _ _ _); k_dflt (refine' len_M ?k1 ?k2 ?k3 ?_; (case k1 => k_asm); (case k2 => k_mem); (case k3 => first | assumption | (simp only [Array.size_push]; omega)); k_whole); (try dsimp only)) | ((try dsimp only [List.nil_append, List.cons_append]); (with_reducible show wpAny _ _ (call (Value.builtin "list.append") [Value.ref _, _]) _ _ _); k_dflt (refine' append_M ?k1 ?k2 ?k3 ?z ?_; (case k1 => k_asm); (case k2 => k_asm); (case k3 => k_upd); (case z => first | assumption | omega); k_whole); intros; (try k_sweep)) | ((try dsimp only [List.nil_append, List.cons_append]); (with_reducible show wpAny _ _ (call (Value.builtin "list.extend") [Value.ref _, Value.ref _]) _ _ _); k_dflt (refine' extend_M ?k1 ?k2 ?k4 ?k3 ?z ?_; (case k1 => k_asm); (case k2 => k_asm); (case k4 => k_mem); (case k3 => k_upd); (case z => first | assumption | omega); k_whole); intros; (try k_sweep))) | ((with_reducible show wpAny _ _ (subscriptTail _ _ _ _) _ _ _); (try dsimp only); first | ((with_reducible show wpAny _ _ (subscriptTail _ _ (Value.ref _) (Value.int _ _)) _ _ _); k_dflt (refine' item_M ?k1 ?k2 ?k4 ?k5 ?k3 ?_ ?k6; (case k1 => k_asm); (case k2 => k_mem); (case k3 => assumption); (case k4 => first | with_reducible assumption | omega); (case k5 => first | with_reducible assumption | omega); (case k6 => with_unfolding_all rfl); k_whole))) | ((with_reducible show wpAny _ _ (setItem _ _ _) _ _ _); (try dsimp only); first | ((with_reducible show wpAny _ _ (setItem (Value.ref _) _ _) _ _ _); k_dflt (first | (refine' kda_set (knd := PySem.strKind _ _) ?k1 ?k2 ?k3 ?k4 (strKind_is _ _ _ _) ?k5 ?_; (case k1 => k_asm); (case k2 => k_asm); (case k3 => k_updF); (case k4 => k_asm); (case k5 => exact small_line (by assumption)); k_whole) | (refine' kda_set (knd := intKind _ _) ?k1 ?k2 ?k3 ?k4 (intKind_is _ _ _ _) ?k5 ?_; (case k1 => k_asm); (case k2 => k_asm); (case k3 => k_updF); (case k4 => k_asm); (case k5 => exact small_line (by assumption)); k_whole)); walk_at "kq3"; (try k_sweep))) | ((with_reducible show wpAny _ _ (eval (PySem.Expr.Dict _ _ _) _) _ _ _); k_dflt (refine' newDict_K ?k1 ?k2 ?k3 ?_; (case k1 => k_asm); (case k2 => k_asm); (case k3 => exact TopRead.nolimit (by k_asm)); k_whole); intros; (try k_sweep)) | ((with_reducible show wpAny _ _ (eval (PySem.Expr.Name _ _) (envOf _ _ _ _ _)) _ _ _); first | k_dflt (refine' ld ?k1 ?k2 ?_; (case k1 => k_asm); (case k2 => exact rfl); k_whole) | (with_unfolding_all refine guard_global (by rfl) ?_; k_dflt (refine' name_K ?kF ?k1 ?k2 ?k3 ?_; (case kF => k_asm); (case k1 => k_asm); (case k2 => k_asm); (case k3 => k_is); k_whole))) | walk1 | (dsimp only; walk1) | (leave1; try dsimp only)))
  refine' h _ _ _ _ _ ?a0 ?a1 ?a2 ?zf ?zn
  case zf => k_asm
  case zn => first | k_asm | (rename News _ _ _ _ => NN; exact News.sub (by k_asm) (by repeat' (first | (with_reducible refine fac ?_ ?_) | tb_rel | ((with_reducible show _ ∈ _); k_memK) | (intro p' hp'; (repeat (with_reducible apply kfs5)); (repeat (with_reducible apply mt)); exact hp'))))
  all_goals (first
  | with_reducible assumption
  | exact lt_tail (by with_reducible assumption) (by intro p' hp'; (repeat (with_reducible apply kfs5)); (repeat (with_reducible apply mt)); exact hp')
  | exact lt_tail2 (by with_reducible assumption) (by with_reducible assumption) (by intro p' hp'; (repeat (with_reducible apply kfs5)); (repeat (with_reducible apply mt)); exact hp')
  | ((with_reducible apply at_lt); (with_reducible assumption); k_memK)
  | ((with_reducible apply at_lt_lt); (with_reducible assumption); (with_reducible assumption); k_memK)
  | (show _ ∧ _; refine ⟨?_, ?_⟩))

set_option maxHeartbeats 4000000 in
theorem setting_use {w : World} {t u : Tok}
    {dp un : Nat} {gd : Option (List Code)} {env : Env} {outer : List Env} {A₀ : Around} {base h₀ : Heap} {L : Addr} {m : Str → Option Value} {mean : ExcName → Option Value} {mg mb : Str → Option Value} {s : Shared} {Q E : Value → Shared → Prop} {news : Led}
    (B : Below A₀ base outer h₀) (F : Fr h₀ L s.heap m) (X : (KF w.params).In h₀) (N : News h₀ L s.heap news) (T₀ : Top q LZ mean mg mb h₀) (hf : env.frame = some L) (hk : env.scope.kind = .function) (hd : dp + 14 < recursionLimit) (hu : un + 8 * 14 < cLine)
    (h : ∀ (set sd dt tab rl bd ti op ptd pt ca pd pa ia pr fd : Addr) (tf : Tok) (z : SZ) (ta tb : Tok) (ob ot oo : Obj) (qa qb qc d qe qf b1 b2 b3 : Tok) h' tk', (∀ p ∈ news, p.1 < sd) → (∀ p ∈ news, p.1 < set) → (∀ p ∈ news, p.1 < dt) → (∀ p ∈ news, p.1 < tab) → (∀ p ∈ news, p.1 < rl) → (∀ p ∈ news, p.1 < bd) → (∀ p ∈ news, p.1 < ti) → (∀ p ∈ news, p.1 < op) → (∀ p ∈ news, p.1 < ptd) → (∀ p ∈ news, p.1 < pt) → (∀ p ∈ news, p.1 < ca) → (∀ p ∈ news, p.1 < pd) → (∀ p ∈ news, p.1 < pa) → (∀ p ∈ news, p.1 < pr) → (@LT.lt Nat _ sd set) → (@LT.lt Nat _ set dt) → (@LT.lt Nat _ dt tab) → (@LT.lt Nat _ tab rl) → (@LT.lt Nat _ rl bd) → (@LT.lt Nat _ bd ti) → (@LT.lt Nat _ ti op) → (@LT.lt Nat _ op ptd) → (@LT.lt Nat _ ptd pt) → (@LT.lt Nat _ pt ca) → (@LT.lt Nat _ ca pd) → (@LT.lt Nat _ pd pa) → (@LT.lt Nat _ pa pr) → (bd == sysModules) = false → ob.IsDictOf (SK w) [] → (ti == sysModules) = false → ot.IsDictOf (IK w) [] → (op == sysModules) = false → oo.IsDictOf (IK w) [] → Fr h₀ L h' m → News h₀ L h' ((pr, W.listOf #[.ref pa, .ref ia] 0) :: (pa, instObj 422 pd) :: (pd, portObj w ca b1 b2 b3 3) :: (ca, W.listOf #[] 0) :: (pt, instObj 506 ptd) :: (ptd, ptObj w pr fd 0 qa qb qc d qe qf 4) :: (op, oo) :: (ti, ot) :: (bd, ob) :: (rl, W.listOf #[] 0) :: (tab, instObj 128 dt) :: (dt, tabObj w rl bd ta tb 2) :: (set, instObj 598 sd) :: (sd, setObj w tab ti op pt 0 tf z) :: news) → Q (.ref set) { s with heap := h', toks := tk' }) :
    wpAny (model PG w) (top dp un gd env outer) (call (.ref 598) [.int 8 t, .int 50 u]) Q E s := by
  w_on
  k_dflt (refine' call_cls ?k1 ?k2 ?k3 ?k4 ?k5 ?k6 ?_; (case k1 => k_asm); (case k2 => k_asm); (case k3 => k_asm); (case k4 => k_is); (case k5 => k_is); (case k6 => k_is); k_whole; intro x' d' h' F' N' l1 l2; (try k_sweep))
  k_dflt (refine' code_defT3 ?kA ?kF ?kK ?k1 ?k2 ?k3 ?k4 ?k5 ?k6 ?k7 ?k8 ?k9 ?kB ?_ ?c2 ?c3 ?c4 ?c5; (case kA => exact rfl); (case kF => first | exact rfl | assumption); (case kK => first | exact rfl | assumption); (case k1 => k_asm); (case k2 => k_asm); (case k3 => k_asm); (case k4 => k_asm); (case k5 => k_asm); (case k6 => k_is); (case k7 => k_is); (case k8 => k_room); (case k9 => exact binds_K (by k_in) rfl (by k_is) rfl rfl rfl); (case c5 => decide); (case kB => exact locs' rfl); (case c2 => exact rfl); (case c3 => exact rfl); (case c4 => exact rfl); k_whole; intro g' L' h' tk' FG' F' N' B' X' T' G'; (try dsimp only); (try k_lift B'); (try k_fold))
  (repeat' ((fail_if_success (with_reducible show Hold _)); first | (k_unfold; (try dsimp only)) | (k_end; first | kc_close | wrow_close) | ((with_reducible show wpAny _ _ (call _ _) _ _ _); (try dsimp only); first | ((with_reducible show wpAny _ _ (call (Value.ref 128) _) _ _ _); k_dflt (refine' table_use ?kB ?kF ?kX ?kN ?kT ?kf ?kk ?kd ?ku ?_; (case kB => k_asm); (case kF => k_asm); (case kX => k_asm); (case kN => k_asm); (case kT => k_asm); (case kf => first | exact rfl | assumption); (case kk => first | exact rfl | assumption); (case kd => k_room); (case ku => k_units); k_whole); intros; (try dsimp only); (try k_sweep)) | ((with_reducible show wpAny _ _ (call (Value.ref 506) _) _ _ _); k_dflt (refine' ports_use ?kB ?kF ?kX ?kN ?kT ?kf ?kk ?kd ?ku ?_; (case kB => k_asm); (case kF => k_asm); (case kX => k_asm); (case kN => k_asm); (case kT => k_asm); (case kf => first | exact rfl | assumption); (case kk => first | exact rfl | assumption); (case kd => k_room); (case ku => k_units); k_whole); intros; (try dsimp only); (try k_sweep)) | ((with_reducible show wpAny _ _ (call (Value.builtin "dict.get") _) _ _ _); k_dflt (first | (refine kdg_get2 (knd := PySem.strKind _ _) (by k_asm) (by k_mem) (by k_asm) (by k_asm) (strKind_is _ _ _ _) _ (by assumption) ?_) | (refine kdg_get2 (knd := intKind _ _) (by k_asm) (by k_mem) (by k_asm) (by k_asm) (intKind_is _ _ _ _) _ (by assumption) ?_)); (try dsimp only [Option.getD])) | ((with_reducible show wpAny _ _ (call (Value.builtin "len") [Value.ref _]) _ _ _); k_dflt (refine' len_M ?k1 ?k2 ?k3 ?_; (case k1 => k_asm); (case k2 => k_mem); (case k3 => first | assumption | (simp only [Array.size_push]; omega)); k_whole); (try dsimp only)) | ((try dsimp only [List.nil_append, List.cons_append]); (with_reducible show wpAny _ _ (call (Value.builtin "list.append") [Value.ref _, _]) _ _ _); k_dflt (refine' append_M ?k1 ?k2 ?k3 ?z ?_; (case k1 => k_asm); (case k2 => k_asm); (case k3 => k_upd); (case z => first | assumption | omega); k_whole); intros; (try k_sweep)) | ((try dsimp only [List.nil_append, List.cons_append]); (with_reducible show wpAny _ _ (call (Value.builtin "list.extend") [Value.ref _, Value.ref _]) _ _ _); k_dflt (refine' extend_M ?k1 ?k2 ?k4 ?k3 ?z ?_; (case k1 => k_asm); (case k2 => k_asm); (case k4 => k_mem); (case k3 => k_upd); (case z => first | assumption | omega); k_whole); intros; (try k_sweep))) | ((with_reducible show wpAny _ _ (subscriptTail _ _ _ _) _ _ _); (try dsimp only); first | ((with_reducible show wpAny _ _ (subscriptTail _ _ (Value.ref _) (Value.int _ _)) _ _ _); k_dflt (refine' item_M ?k1 ?k2 ?k4 ?k5 ?k3 ?_ ?k6; (case k1 => k_asm); (case k2 => k_mem); (case k3 => assumption); (case k4 => first | with_reducible assumption | omega); (case k5 => first | with_reducible assumption | omega); (case k6 => with_unfolding_all rfl); k_whole))) | ((with_reducible show wpAny _ _ (setItem _ _ _) _ _ _); (try dsimp only); first | ((with_reducible show wpAny _ _ (setItem (Value.ref _) _ _) _ _ _); k_dflt (first | (refine' kda_set (knd := PySem.strKind _ _) ?k1 ?k2 ?k3 ?k4 (strKind_is _ _ _ _) ?k5 ?_; (case k1 => k_asm); (case k2 => k_asm); (case k3 => k_updF); (case k4 => k_asm); (case k5 => exact small_line (by assumption)); k_whole) | (refine' kda_set (knd := intKind _ _) ?k1 ?k2 ?k3 ?k4 (intKind_is _ _ _ _) ?k5 ?_; (case k1 => k_asm); (case k2 => k_asm); (case k3 => k_updF); (case k4 => k_asm); (case k5 => exact small_line (by assumption)); k_whole)); walk_at "kq3"; (try k_sweep))) | ((with_reducible show wpAny _ _ (eval (PySem.Expr.Dict _ _ _) _) _ _ _); k_dflt (refine' newDict_K ?k1 ?k2 ?k3 ?_; (case k1 => k_asm); (case k2 => k_asm); (case k3 => exact TopRead.nolimit (by k_asm)); k_whole); intros; (try k_sweep)) | ((with_reducible show wpAny _ _ (eval (PySem.Expr.Name _ _) (envOf _ _ _ _ _)) _ _ _); first | k_dflt (refine' ld ?k1 ?k2 ?_; (case k1 => k_asm); (case k2 => exact rfl); k_whole) | (with_unfolding_all refine guard_global (by rfl) ?_; k_dflt (refine' name_K ?kF ?k1 ?k2 ?k3 ?_; (case kF => k_asm); (case k1 => k_asm); (case k2 => k_asm); (case k3 => k_is); k_whole))) | walk1 | (dsimp only; walk1) | (leave1; try dsimp only)))
  refine' h _ _ _ _ _ _ _ _ _ _ _ _ _ _ _ _ _ (SZ.mk _ _ _ _ _ _ _ _ _ _ _) _ _ _ _ _ _ _ _ _ _ _ _ _ _ _ _ ?a0 ?a1 ?a2 ?a3 ?a4 ?a5 ?a6 ?a7 ?a8 ?a9 ?a10 ?a11 ?a12 ?a13 ?a14 ?a15 ?a16 ?a17 ?a18 ?a19 ?a20 ?a21 ?a22 ?a23 ?a24 ?a25 ?a26 ?a27 ?a28 ?a29 ?a30 ?a31 ?a32 ?zf ?zn
  case zf => k_asm
  case zn => first | k_asm | (rename News _ _ _ _ => NN; exact News.sub (by k_asm) (by repeat' (first | (with_reducible refine fac ?_ ?_) | tb_rel | ((with_reducible show _ ∈ _); k_memK) | (intro p' hp'; (repeat (with_reducible apply kfs5)); (repeat (with_reducible apply mt)); exact hp'))))
  all_goals (first
  | with_reducible assumption
  | exact lt_tail (by with_reducible assumption) (by intro p' hp'; (repeat (with_reducible apply kfs5)); (repeat (with_reducible apply mt)); exact hp')
  | exact lt_tail2 (by with_reducible assumption) (by with_reducible assumption) (by intro p' hp'; (repeat (with_reducible apply kfs5)); (repeat (with_reducible apply mt)); exact hp')
  | ((with_reducible apply at_lt); (with_reducible assumption); k_memK)
  | ((with_reducible apply at_lt_lt); (with_reducible assumption); (with_reducible assumption); k_memK)
  | (show _ ∧ _; refine ⟨?_, ?_⟩))

local macro_rules | `(tactic| k_qdec) => `(tactic| decide +kernel)

set_option maxHeartbeats 8000000 in
theorem walk : WalkO q loose (XL q []) (kHook KF KA KAe).says PySem.Challenge.rw_pq1033_01.row.toRowW dLaw [] fun f vs => PySem.call f vs := by
  w_on
  k_go0
  all_goals try k_fold
  (repeat' ((fail_if_success (with_reducible show Hold _)); (fail_if_success (with_reducible show TurnEnd0 _ _ _ _ _ _ _ _ _ _)); first | (k_unfold; (try dsimp only)) | (k_end; first | kc_close | wrow_close) | ((with_reducible show wpAny _ _ (call _ _) _ _ _); (try dsimp only); first | ((with_reducible show wpAny _ _ (call (Value.ref 598) _) _ _ _); k_dflt (refine' setting_use ?kB ?kF ?kX ?kN ?kT ?kf ?kk ?kd ?ku ?_; (case kB => k_asm); (case kF => k_asm); (case kX => k_asm); (case kN => k_asm); (case kT => k_asm); (case kf => first | exact rfl | assumption); (case kk => first | exact rfl | assumption); (case kd => k_room); (case ku => k_units); k_whole); intros; (try dsimp only); (try k_sweep)) | ((with_reducible show wpAny _ _ (call (Value.ref 967) _) _ _ _); k_dflt (refine' store_use ?kB ?kF ?kX ?kN ?kT ?kf ?kk ?kd ?ku ?_; (case kB => k_asm); (case kF => k_asm); (case kX => k_asm); (case kN => k_asm); (case kT => k_asm); (case kf => first | exact rfl | assumption); (case kk => first | exact rfl | assumption); (case kd => k_room); (case ku => k_units); k_whole); intros; (try dsimp only); (try k_sweep))) | ((with_reducible show wpAny _ _ (exec (PySem.Stmt.For _ _ _ _ _) _) _ _ _); refine hold ?_) | ((with_reducible show wpAny _ _ (eval (PySem.Expr.Dict [] [] _) _) _ _ _); k_dflt (refine' newDict_K ?k1 ?k2 ?k3 ?_; (case k1 => k_asm); (case k2 => k_asm); (case k3 => exact TopRead.nolimit (by k_asm)); k_whole); intros; (try k_sweep)) | ((with_reducible show wpAny _ _ (eval (PySem.Expr.Name _ _) (envOf _ _ _ _ _)) _ _ _); first | k_dflt (refine' ld ?k1 ?k2 ?_; (case k1 => k_asm); (case k2 => exact rfl); k_whole) | (with_unfolding_all refine guard_global (by rfl) ?_; k_dflt (refine' name_K ?kF ?k1 ?k2 ?k3 ?_; (case kF => k_asm); (case k1 => k_asm); (case k2 => k_asm); (case k3 => k_is); k_whole))) | walk1 | (dsimp only; walk1) | (leave1; try dsimp only)))
  unfold Hold
  rename Fr _ _ _ _ => F1
  rename News _ _ _ _ => N1
  rename Obj.IsDictOf _ _ (strPairs _) => hst
  obtain ⟨c, e, r, rfl, rfl, rfl, rfl, hc, he, hI, N2⟩ := law_start hst N1 (by repeat' (first | (with_reducible refine fac ?_ ?_) | exact List.forall_mem_nil _ | k_memK)) (by repeat' (first | exact SD.one | (refine SD.more ?_ ?_) | (first
  | with_reducible assumption
  | exact lt_tail (by with_reducible assumption) (by intro p' hp'; (repeat (with_reducible apply kfs5)); (repeat (with_reducible apply mt)); exact hp')
  | exact lt_tail2 (by with_reducible assumption) (by with_reducible assumption) (by intro p' hp'; (repeat (with_reducible apply kfs5)); (repeat (with_reducible apply mt)); exact hp')
  | ((with_reducible apply at_lt); (with_reducible assumption); k_memK)
  | ((with_reducible apply at_lt_lt); (with_reducible assumption); (with_reducible assumption); k_memK)
  | (show _ ∧ _; refine ⟨?_, ?_⟩)))) (by assumption) (by simp) (by simp; omega) (deck_bound (by omega)) (by assumption) (by assumption) (by assumption) (by assumption) (by assumption) (by assumption) (by assumption) (by assumption) (by assumption) (by assumption) (by assumption) (by assumption) (by assumption)
  clear N1 hst
  (rename Fr _ _ _ _ => F2)
  (with_unfolding_all refine' For_invVF F2 ?kk1 ?kk2 ?_; (case kk1 => exact rfl); (case kk2 => exact rfl))
  (repeat' ((fail_if_success (with_reducible show Hold _)); (fail_if_success (with_reducible show TurnEnd0 _ _ _ _ _ _ _ _ _ _)); first | (k_unfold; (try dsimp only)) | (k_end; first | kc_close | wrow_close) | ((with_reducible show wpAny _ _ (call _ _) _ _ _); (try dsimp only); first | ((with_reducible show wpAny _ _ (call (Value.ref 984) _) _ _ _); refine hold ?_)) | ((with_reducible show wpAny _ _ (eval (PySem.Expr.Name _ _) (envOf _ _ _ _ _)) _ _ _); first | k_dflt (refine' ld ?k1 ?k2 ?_; (case k1 => k_asm); (case k2 => exact rfl); k_whole) | (with_unfolding_all refine guard_global (by rfl) ?_; k_dflt (refine' name_K ?kF ?k1 ?k2 ?k3 ?_; (case kF => k_asm); (case k1 => k_asm); (case k2 => k_asm); (case k3 => k_is); k_whole))) | walk1 | (dsimp only; walk1) | (leave1; try dsimp only)))
  unfold Hold
  k_dflt (refine' law_use (J := []) (drawL hc he hI (by omega) (by decide) (by decide)) drawM ?kB ?kF ?kX ?kN ?kT ?kf ?kk ?kd ?ku ?ko ?_; (case kB => k_asm); (case kF => k_asm); (case kX => k_asm); (case kN => k_asm); (case kT => k_asm); (case kf => first | exact rfl | assumption); (case kk => first | exact rfl | assumption); (case kd => k_room); (case ku => k_units); (case ko => exact fun _ h => nomatch h); k_whole)
  rintro v r1 h1 tk1 ⟨⟨i, t, rfl, hi0, hi8⟩, hI1⟩ F3 N3 off3
  (repeat' ((fail_if_success (with_reducible show Hold _)); (fail_if_success (with_reducible show TurnEnd0 _ _ _ _ _ _ _ _ _ _)); first | (k_unfold; (try dsimp only)) | (k_end; first | kc_close | wrow_close) | ((with_reducible show wpAny _ _ (eval (PySem.Expr.Name _ _) (envOf _ _ _ _ _)) _ _ _); first | k_dflt (refine' ld ?k1 ?k2 ?_; (case k1 => k_asm); (case k2 => exact rfl); k_whole) | (with_unfolding_all refine guard_global (by rfl) ?_; k_dflt (refine' name_K ?kF ?k1 ?k2 ?k3 ?_; (case kF => k_asm); (case k1 => k_asm); (case k2 => k_asm); (case k3 => k_is); k_whole))) | walk1 | (dsimp only; walk1) | (leave1; try dsimp only)))
  unfold Hold
  rename Fr _ _ _ _ => F4
  rename News _ _ _ _ => N4
  rename IsRange _ _ _ _ _ _ _ _ => R4
  obtain ⟨n8, hn8⟩ : ∃ n8 : Nat, 4 + i = (n8 : Int) := ⟨(4 + i).toNat, by omega⟩
  refine range_loop0 (n := n8) (fun k nx => ∃ r, LawI _ c e (1 + 11 * k) r ∧ nx = lawL _ c e r) rfl R4 hn8 (by omega) F4 N4 ⟨r1, hI1, rfl⟩ ?turn ?done
  case turn =>
    clear F4 N4 R4 off3
    rintro j t9 I nx h tk oI hj ⟨r2, hI2, rfl⟩ hIo F5 N5
    have off5 : ∀ q ∈ [(I, oI)], ∀ p ∈ lawL _ c e r2, p.1 ≠ q.1 := fun q hq p hp => by rw [List.mem_singleton.mp hq]; exact off1_mem hIo p hp
    dsimp only [envOf] at F5 N5
    dsimp only
    (repeat' ((fail_if_success (with_reducible show Hold _)); (fail_if_success (with_reducible show TurnEnd0 _ _ _ _ _ _ _ _ _ _)); first | (k_unfold; (try dsimp only)) | (k_end; first | kc_close | wrow_close) | ((with_reducible show wpAny _ _ (call _ _) _ _ _); (try dsimp only); first | ((with_reducible show wpAny _ _ (call (Value.ref 984) _) _ _ _); refine hold ?_)) | ((with_reducible show wpAny _ _ (eval (PySem.Expr.Name _ _) (envOf _ _ _ _ _)) _ _ _); first | k_dflt (refine' ld ?k1 ?k2 ?_; (case k1 => k_asm); (case k2 => exact rfl); k_whole) | (with_unfolding_all refine guard_global (by rfl) ?_; k_dflt (refine' name_K ?kF ?k1 ?k2 ?k3 ?_; (case kF => k_asm); (case k1 => k_asm); (case k2 => k_asm); (case k3 => k_is); k_whole))) | walk1 | (dsimp only; walk1) | (leave1; try dsimp only)))
    unfold Hold
    k_dflt (refine' law_use (J := [(I, oI)]) (drawL hc he hI2 (by omega) (by decide) (by decide)) drawM ?kB ?kF ?kX ?kN ?kT ?kf ?kk ?kd ?ku ?ko ?_; (case kB => k_asm); (case kF => k_asm); (case kX => k_asm); (case kN => k_asm); (case kT => k_asm); (case kf => first | exact rfl | assumption); (case kk => first | exact rfl | assumption); (case kd => k_room); (case ku => k_units); (case ko => exact off5); k_whole)
    rintro v r3 h3 tk3 ⟨⟨i3, t3, rfl, hi30, hi32⟩, hI3⟩ F6 N6 off6
    (repeat' ((fail_if_success (with_reducible show Hold _)); (fail_if_success (with_reducible show TurnEnd0 _ _ _ _ _ _ _ _ _ _)); first | (k_unfold; (try dsimp only)) | (k_end; first | kc_close | wrow_close) | ((with_reducible show wpAny _ _ (call _ _) _ _ _); (try dsimp only); first | ((with_reducible show wpAny _ _ (call (Value.ref 989) _) _ _ _); refine hold ?_) | ((with_reducible show wpAny _ _ (call (Value.ref 994) _) _ _ _); refine hold ?_)) | ((with_reducible show wpAny _ _ (eval (PySem.Expr.Name _ _) (envOf _ _ _ _ _)) _ _ _); first | k_dflt (refine' ld ?k1 ?k2 ?_; (case k1 => k_asm); (case k2 => exact rfl); k_whole) | (with_unfolding_all refine guard_global (by rfl) ?_; k_dflt (refine' name_K ?kF ?k1 ?k2 ?k3 ?_; (case kF => k_asm); (case k1 => k_asm); (case k2 => k_asm); (case k3 => k_is); k_whole))) | walk1 | (dsimp only; walk1) | (leave1; try dsimp only)))
    all_goals unfold Hold
    · k_dflt (refine' law_use (J := [(I, oI)]) (namesL hc he hI3 (by omega)) namesM ?kB ?kF ?kX ?kN ?kT ?kf ?kk ?kd ?ku ?ko ?_; (case kB => k_asm); (case kF => k_asm); (case kX => k_asm); (case kN => k_asm); (case kT => k_asm); (case kf => first | exact rfl | assumption); (case kk => first | exact rfl | assumption); (case kd => k_room); (case ku => k_units); (case ko => exact off6); k_whole)
      rintro v r4 h4 tk4 ⟨rfl, hI4⟩ F7 N7 off7
      (repeat' ((fail_if_success (with_reducible show Hold _)); (fail_if_success (with_reducible show TurnEnd0 _ _ _ _ _ _ _ _ _ _)); first | (k_unfold; (try dsimp only)) | (k_end; first | kc_close | wrow_close) | ((with_reducible show wpAny _ _ (eval (PySem.Expr.Name _ _) (envOf _ _ _ _ _)) _ _ _); first | k_dflt (refine' ld ?k1 ?k2 ?_; (case k1 => k_asm); (case k2 => exact rfl); k_whole) | (with_unfolding_all refine guard_global (by rfl) ?_; k_dflt (refine' name_K ?kF ?k1 ?k2 ?k3 ?_; (case kF => k_asm); (case k1 => k_asm); (case k2 => k_asm); (case k3 => k_is); k_whole))) | walk1 | (dsimp only; walk1) | (leave1; try dsimp only)))
      refine turn_next F7 N7 (fun p hp => off7 (I, oI) (.head _) p hp) ⟨r4, ?_, rfl⟩
      rw [show 1 + 11 * (j + 1) = 1 + 11 * j + 1 + 10 by omega]; exact hI4
    · k_dflt (refine' law_use (J := [(I, oI)]) (writtenL hc he hI3 (by omega)) writtenM ?kB ?kF ?kX ?kN ?kT ?kf ?kk ?kd ?ku ?ko ?_; (case kB => k_asm); (case kF => k_asm); (case kX => k_asm); (case kN => k_asm); (case kT => k_asm); (case kf => first | exact rfl | assumption); (case kk => first | exact rfl | assumption); (case kd => k_room); (case ku => k_units); (case ko => exact off6); k_whole)
      rintro v r4 h4 tk4 ⟨rfl, hI4⟩ F7 N7 off7
      (repeat' ((fail_if_success (with_reducible show Hold _)); (fail_if_success (with_reducible show TurnEnd0 _ _ _ _ _ _ _ _ _ _)); first | (k_unfold; (try dsimp only)) | (k_end; first | kc_close | wrow_close) | ((with_reducible show wpAny _ _ (eval (PySem.Expr.Name _ _) (envOf _ _ _ _ _)) _ _ _); first | k_dflt (refine' ld ?k1 ?k2 ?_; (case k1 => k_asm); (case k2 => exact rfl); k_whole) | (with_unfolding_all refine guard_global (by rfl) ?_; k_dflt (refine' name_K ?kF ?k1 ?k2 ?k3 ?_; (case kF => k_asm); (case k1 => k_asm); (case k2 => k_asm); (case k3 => k_is); k_whole))) | walk1 | (dsimp only; walk1) | (leave1; try dsimp only)))
      refine turn_next F7 N7 (fun p hp => off7 (I, oI) (.head _) p hp) ⟨r4, ?_, rfl⟩
      rw [show 1 + 11 * (j + 1) = 1 + 11 * j + 1 + 10 by omega]; exact hI4
  case done =>
    clear F4 N4 R4 off3
    rintro u nx h tk ⟨r2, hI2, rfl⟩ F5 N5
    dsimp only [envOf] at F5 N5
    dsimp only
    (repeat' ((fail_if_success (with_reducible show Hold _)); (fail_if_success (with_reducible show TurnEnd0 _ _ _ _ _ _ _ _ _ _)); first | (k_unfold; (try dsimp only)) | (k_end; first | kc_close | wrow_close) | ((with_reducible show wpAny _ _ (eval (PySem.Expr.Name _ _) (envOf _ _ _ _ _)) _ _ _); first | k_dflt (refine' ld ?k1 ?k2 ?_; (case k1 => k_asm); (case k2 => exact rfl); k_whole) | (with_unfolding_all refine guard_global (by rfl) ?_; k_dflt (refine' name_K ?kF ?k1 ?k2 ?k3 ?_; (case kF => k_asm); (case k1 => k_asm); (case k2 => k_asm); (case k3 => k_is); k_whole))) | walk1 | (dsimp only; walk1) | (leave1; try dsimp only)))

end Mine
theorem PySem.Challenge.cw_pq1033_01_holds : PySem.Challenge.rw_pq1033_01.Holds :=
  Mine.hd Mine.walk
