import PyProof.Rows.All
import Wide.All
import OpenK.AllK
import Wide.FinOn
import Lean
import PySem.Challenge.RW_ok0055_01
open PySem PySem.W PyProof.Rows
set_option Elab.async false
set_option compiler.extract_closed false
section
set_option maxRecDepth 100000
namespace Mine
noncomputable def noStmt : Stmt := .Pass ⟨0, 0, 0, 0⟩
noncomputable def sBody : Stmt → List Stmt
  | .FunctionDef (body := b) .. => b
  | .ClassDef (body := b) .. => b
  | _ => []
noncomputable def sArgs : Stmt → Arguments
  | .FunctionDef (args := a) .. => a
  | _ => Arguments.mk [] [] none [] [] none []
noncomputable def sScope : Stmt → Scope
  | .FunctionDef (scope := s) .. => s
  | _ => Scope.mk .function [] false false []
noncomputable def topS (i : Nat) : Stmt := Challenge.pw_ok0055_01.main.body.getD i noStmt
noncomputable def inS (i j : Nat) : Stmt := (sBody (topS i)).getD j noStmt
noncomputable def xA0 : {x : Arguments // x = sArgs (topS 0)} := ⟨_, by conv => rhs; whnf⟩
noncomputable def A0 : Arguments := xA0.1
noncomputable def xB0 : {x : List Stmt // x = sBody (topS 0)} := ⟨_, by conv => rhs; whnf⟩
noncomputable def B0 : List Stmt := xB0.1
noncomputable def xS0 : {x : Scope // x = sScope (topS 0)} := ⟨_, by conv => rhs; whnf⟩
noncomputable def S0 : Scope := xS0.1
noncomputable def xA2m0 : {x : Arguments // x = sArgs (inS 2 0)} := ⟨_, by conv => rhs; whnf⟩
noncomputable def A2m0 : Arguments := xA2m0.1
noncomputable def xB2m0 : {x : List Stmt // x = sBody (inS 2 0)} := ⟨_, by conv => rhs; whnf⟩
noncomputable def B2m0 : List Stmt := xB2m0.1
noncomputable def xS2m0 : {x : Scope // x = sScope (inS 2 0)} := ⟨_, by conv => rhs; whnf⟩
noncomputable def S2m0 : Scope := xS2m0.1
noncomputable def xA15m0 : {x : Arguments // x = sArgs (inS 15 0)} := ⟨_, by conv => rhs; whnf⟩
noncomputable def A15m0 : Arguments := xA15m0.1
noncomputable def xB15m0 : {x : List Stmt // x = sBody (inS 15 0)} := ⟨_, by conv => rhs; whnf⟩
noncomputable def B15m0 : List Stmt := xB15m0.1
noncomputable def xS15m0 : {x : Scope // x = sScope (inS 15 0)} := ⟨_, by conv => rhs; whnf⟩
noncomputable def S15m0 : Scope := xS15m0.1
noncomputable def xA15m1 : {x : Arguments // x = sArgs (inS 15 1)} := ⟨_, by conv => rhs; whnf⟩
noncomputable def A15m1 : Arguments := xA15m1.1
noncomputable def xB15m1 : {x : List Stmt // x = sBody (inS 15 1)} := ⟨_, by conv => rhs; whnf⟩
noncomputable def B15m1 : List Stmt := xB15m1.1
noncomputable def xS15m1 : {x : Scope // x = sScope (inS 15 1)} := ⟨_, by conv => rhs; whnf⟩
noncomputable def S15m1 : Scope := xS15m1.1
noncomputable def xA15m2 : {x : Arguments // x = sArgs (inS 15 2)} := ⟨_, by conv => rhs; whnf⟩
noncomputable def A15m2 : Arguments := xA15m2.1
noncomputable def xB15m2 : {x : List Stmt // x = sBody (inS 15 2)} := ⟨_, by conv => rhs; whnf⟩
noncomputable def B15m2 : List Stmt := xB15m2.1
noncomputable def xS15m2 : {x : Scope // x = sScope (inS 15 2)} := ⟨_, by conv => rhs; whnf⟩
noncomputable def S15m2 : Scope := xS15m2.1
noncomputable def xA15m3 : {x : Arguments // x = sArgs (inS 15 3)} := ⟨_, by conv => rhs; whnf⟩
noncomputable def A15m3 : Arguments := xA15m3.1
noncomputable def xB15m3 : {x : List Stmt // x = sBody (inS 15 3)} := ⟨_, by conv => rhs; whnf⟩
noncomputable def B15m3 : List Stmt := xB15m3.1
noncomputable def xS15m3 : {x : Scope // x = sScope (inS 15 3)} := ⟨_, by conv => rhs; whnf⟩
noncomputable def S15m3 : Scope := xS15m3.1
noncomputable def xA15m4 : {x : Arguments // x = sArgs (inS 15 4)} := ⟨_, by conv => rhs; whnf⟩
noncomputable def A15m4 : Arguments := xA15m4.1
noncomputable def xB15m4 : {x : List Stmt // x = sBody (inS 15 4)} := ⟨_, by conv => rhs; whnf⟩
noncomputable def B15m4 : List Stmt := xB15m4.1
noncomputable def xS15m4 : {x : Scope // x = sScope (inS 15 4)} := ⟨_, by conv => rhs; whnf⟩
noncomputable def S15m4 : Scope := xS15m4.1
noncomputable def xA16 : {x : Arguments // x = sArgs (topS 16)} := ⟨_, by conv => rhs; whnf⟩
noncomputable def A16 : Arguments := xA16.1
noncomputable def xB16 : {x : List Stmt // x = sBody (topS 16)} := ⟨_, by conv => rhs; whnf⟩
noncomputable def B16 : List Stmt := xB16.1
noncomputable def xS16 : {x : Scope // x = sScope (topS 16)} := ⟨_, by conv => rhs; whnf⟩
noncomputable def S16 : Scope := xS16.1
noncomputable def xA17 : {x : Arguments // x = sArgs (topS 17)} := ⟨_, by conv => rhs; whnf⟩
noncomputable def A17 : Arguments := xA17.1
noncomputable def xB17 : {x : List Stmt // x = sBody (topS 17)} := ⟨_, by conv => rhs; whnf⟩
noncomputable def B17 : List Stmt := xB17.1
noncomputable def xS17 : {x : Scope // x = sScope (topS 17)} := ⟨_, by conv => rhs; whnf⟩
noncomputable def S17 : Scope := xS17.1
noncomputable def xA18m0 : {x : Arguments // x = sArgs (inS 18 0)} := ⟨_, by conv => rhs; whnf⟩
noncomputable def A18m0 : Arguments := xA18m0.1
noncomputable def xB18m0 : {x : List Stmt // x = sBody (inS 18 0)} := ⟨_, by conv => rhs; whnf⟩
noncomputable def B18m0 : List Stmt := xB18m0.1
noncomputable def xS18m0 : {x : Scope // x = sScope (inS 18 0)} := ⟨_, by conv => rhs; whnf⟩
noncomputable def S18m0 : Scope := xS18m0.1
noncomputable def xA18m1 : {x : Arguments // x = sArgs (inS 18 1)} := ⟨_, by conv => rhs; whnf⟩
noncomputable def A18m1 : Arguments := xA18m1.1
noncomputable def xB18m1 : {x : List Stmt // x = sBody (inS 18 1)} := ⟨_, by conv => rhs; whnf⟩
noncomputable def B18m1 : List Stmt := xB18m1.1
noncomputable def xS18m1 : {x : Scope // x = sScope (inS 18 1)} := ⟨_, by conv => rhs; whnf⟩
noncomputable def S18m1 : Scope := xS18m1.1
noncomputable def xA18m2 : {x : Arguments // x = sArgs (inS 18 2)} := ⟨_, by conv => rhs; whnf⟩
noncomputable def A18m2 : Arguments := xA18m2.1
noncomputable def xB18m2 : {x : List Stmt // x = sBody (inS 18 2)} := ⟨_, by conv => rhs; whnf⟩
noncomputable def B18m2 : List Stmt := xB18m2.1
noncomputable def xS18m2 : {x : Scope // x = sScope (inS 18 2)} := ⟨_, by conv => rhs; whnf⟩
noncomputable def S18m2 : Scope := xS18m2.1
noncomputable def xA18m3 : {x : Arguments // x = sArgs (inS 18 3)} := ⟨_, by conv => rhs; whnf⟩
noncomputable def A18m3 : Arguments := xA18m3.1
noncomputable def xB18m3 : {x : List Stmt // x = sBody (inS 18 3)} := ⟨_, by conv => rhs; whnf⟩
noncomputable def B18m3 : List Stmt := xB18m3.1
noncomputable def xS18m3 : {x : Scope // x = sScope (inS 18 3)} := ⟨_, by conv => rhs; whnf⟩
noncomputable def S18m3 : Scope := xS18m3.1
noncomputable def xA18m4 : {x : Arguments // x = sArgs (inS 18 4)} := ⟨_, by conv => rhs; whnf⟩
noncomputable def A18m4 : Arguments := xA18m4.1
noncomputable def xB18m4 : {x : List Stmt // x = sBody (inS 18 4)} := ⟨_, by conv => rhs; whnf⟩
noncomputable def B18m4 : List Stmt := xB18m4.1
noncomputable def xS18m4 : {x : Scope // x = sScope (inS 18 4)} := ⟨_, by conv => rhs; whnf⟩
noncomputable def S18m4 : Scope := xS18m4.1
noncomputable def xA18m5 : {x : Arguments // x = sArgs (inS 18 5)} := ⟨_, by conv => rhs; whnf⟩
noncomputable def A18m5 : Arguments := xA18m5.1
noncomputable def xB18m5 : {x : List Stmt // x = sBody (inS 18 5)} := ⟨_, by conv => rhs; whnf⟩
noncomputable def B18m5 : List Stmt := xB18m5.1
noncomputable def xS18m5 : {x : Scope // x = sScope (inS 18 5)} := ⟨_, by conv => rhs; whnf⟩
noncomputable def S18m5 : Scope := xS18m5.1
noncomputable def xA18m6 : {x : Arguments // x = sArgs (inS 18 6)} := ⟨_, by conv => rhs; whnf⟩
noncomputable def A18m6 : Arguments := xA18m6.1
noncomputable def xB18m6 : {x : List Stmt // x = sBody (inS 18 6)} := ⟨_, by conv => rhs; whnf⟩
noncomputable def B18m6 : List Stmt := xB18m6.1
noncomputable def xS18m6 : {x : Scope // x = sScope (inS 18 6)} := ⟨_, by conv => rhs; whnf⟩
noncomputable def S18m6 : Scope := xS18m6.1
noncomputable def xA18m7 : {x : Arguments // x = sArgs (inS 18 7)} := ⟨_, by conv => rhs; whnf⟩
noncomputable def A18m7 : Arguments := xA18m7.1
noncomputable def xB18m7 : {x : List Stmt // x = sBody (inS 18 7)} := ⟨_, by conv => rhs; whnf⟩
noncomputable def B18m7 : List Stmt := xB18m7.1
noncomputable def xS18m7 : {x : Scope // x = sScope (inS 18 7)} := ⟨_, by conv => rhs; whnf⟩
noncomputable def S18m7 : Scope := xS18m7.1
noncomputable def xA20m0 : {x : Arguments // x = sArgs (inS 20 0)} := ⟨_, by conv => rhs; whnf⟩
noncomputable def A20m0 : Arguments := xA20m0.1
noncomputable def xB20m0 : {x : List Stmt // x = sBody (inS 20 0)} := ⟨_, by conv => rhs; whnf⟩
noncomputable def B20m0 : List Stmt := xB20m0.1
noncomputable def xS20m0 : {x : Scope // x = sScope (inS 20 0)} := ⟨_, by conv => rhs; whnf⟩
noncomputable def S20m0 : Scope := xS20m0.1
noncomputable def xA21 : {x : Arguments // x = sArgs (topS 21)} := ⟨_, by conv => rhs; whnf⟩
noncomputable def A21 : Arguments := xA21.1
noncomputable def xB21 : {x : List Stmt // x = sBody (topS 21)} := ⟨_, by conv => rhs; whnf⟩
noncomputable def B21 : List Stmt := xB21.1
noncomputable def xS21 : {x : Scope // x = sScope (topS 21)} := ⟨_, by conv => rhs; whnf⟩
noncomputable def S21 : Scope := xS21.1
noncomputable def xA22 : {x : Arguments // x = sArgs (topS 22)} := ⟨_, by conv => rhs; whnf⟩
noncomputable def A22 : Arguments := xA22.1
noncomputable def xB22 : {x : List Stmt // x = sBody (topS 22)} := ⟨_, by conv => rhs; whnf⟩
noncomputable def B22 : List Stmt := xB22.1
noncomputable def xS22 : {x : Scope // x = sScope (topS 22)} := ⟨_, by conv => rhs; whnf⟩
noncomputable def S22 : Scope := xS22.1
noncomputable def xA23 : {x : Arguments // x = sArgs (topS 23)} := ⟨_, by conv => rhs; whnf⟩
noncomputable def A23 : Arguments := xA23.1
noncomputable def xB23 : {x : List Stmt // x = sBody (topS 23)} := ⟨_, by conv => rhs; whnf⟩
noncomputable def B23 : List Stmt := xB23.1
noncomputable def xS23 : {x : Scope // x = sScope (topS 23)} := ⟨_, by conv => rhs; whnf⟩
noncomputable def S23 : Scope := xS23.1
noncomputable def xA24 : {x : Arguments // x = sArgs (topS 24)} := ⟨_, by conv => rhs; whnf⟩
noncomputable def A24 : Arguments := xA24.1
noncomputable def xB24 : {x : List Stmt // x = sBody (topS 24)} := ⟨_, by conv => rhs; whnf⟩
noncomputable def B24 : List Stmt := xB24.1
noncomputable def xS24 : {x : Scope // x = sScope (topS 24)} := ⟨_, by conv => rhs; whnf⟩
noncomputable def S24 : Scope := xS24.1
noncomputable def xA25 : {x : Arguments // x = sArgs (topS 25)} := ⟨_, by conv => rhs; whnf⟩
noncomputable def A25 : Arguments := xA25.1
noncomputable def xB25 : {x : List Stmt // x = sBody (topS 25)} := ⟨_, by conv => rhs; whnf⟩
noncomputable def B25 : List Stmt := xB25.1
noncomputable def xS25 : {x : Scope // x = sScope (topS 25)} := ⟨_, by conv => rhs; whnf⟩
noncomputable def S25 : Scope := xS25.1
noncomputable def xA26 : {x : Arguments // x = sArgs (topS 26)} := ⟨_, by conv => rhs; whnf⟩
noncomputable def A26 : Arguments := xA26.1
noncomputable def xB26 : {x : List Stmt // x = sBody (topS 26)} := ⟨_, by conv => rhs; whnf⟩
noncomputable def B26 : List Stmt := xB26.1
noncomputable def xS26 : {x : Scope // x = sScope (topS 26)} := ⟨_, by conv => rhs; whnf⟩
noncomputable def S26 : Scope := xS26.1
noncomputable def xA28m0 : {x : Arguments // x = sArgs (inS 28 0)} := ⟨_, by conv => rhs; whnf⟩
noncomputable def A28m0 : Arguments := xA28m0.1
noncomputable def xB28m0 : {x : List Stmt // x = sBody (inS 28 0)} := ⟨_, by conv => rhs; whnf⟩
noncomputable def B28m0 : List Stmt := xB28m0.1
noncomputable def xS28m0 : {x : Scope // x = sScope (inS 28 0)} := ⟨_, by conv => rhs; whnf⟩
noncomputable def S28m0 : Scope := xS28m0.1
noncomputable def xA28m1 : {x : Arguments // x = sArgs (inS 28 1)} := ⟨_, by conv => rhs; whnf⟩
noncomputable def A28m1 : Arguments := xA28m1.1
noncomputable def xB28m1 : {x : List Stmt // x = sBody (inS 28 1)} := ⟨_, by conv => rhs; whnf⟩
noncomputable def B28m1 : List Stmt := xB28m1.1
noncomputable def xS28m1 : {x : Scope // x = sScope (inS 28 1)} := ⟨_, by conv => rhs; whnf⟩
noncomputable def S28m1 : Scope := xS28m1.1
noncomputable def xA28m2 : {x : Arguments // x = sArgs (inS 28 2)} := ⟨_, by conv => rhs; whnf⟩
noncomputable def A28m2 : Arguments := xA28m2.1
noncomputable def xB28m2 : {x : List Stmt // x = sBody (inS 28 2)} := ⟨_, by conv => rhs; whnf⟩
noncomputable def B28m2 : List Stmt := xB28m2.1
noncomputable def xS28m2 : {x : Scope // x = sScope (inS 28 2)} := ⟨_, by conv => rhs; whnf⟩
noncomputable def S28m2 : Scope := xS28m2.1
noncomputable def xA28m3 : {x : Arguments // x = sArgs (inS 28 3)} := ⟨_, by conv => rhs; whnf⟩
noncomputable def A28m3 : Arguments := xA28m3.1
noncomputable def xB28m3 : {x : List Stmt // x = sBody (inS 28 3)} := ⟨_, by conv => rhs; whnf⟩
noncomputable def B28m3 : List Stmt := xB28m3.1
noncomputable def xS28m3 : {x : Scope // x = sScope (inS 28 3)} := ⟨_, by conv => rhs; whnf⟩
noncomputable def S28m3 : Scope := xS28m3.1
noncomputable def xA28m4 : {x : Arguments // x = sArgs (inS 28 4)} := ⟨_, by conv => rhs; whnf⟩
noncomputable def A28m4 : Arguments := xA28m4.1
noncomputable def xB28m4 : {x : List Stmt // x = sBody (inS 28 4)} := ⟨_, by conv => rhs; whnf⟩
noncomputable def B28m4 : List Stmt := xB28m4.1
noncomputable def xS28m4 : {x : Scope // x = sScope (inS 28 4)} := ⟨_, by conv => rhs; whnf⟩
noncomputable def S28m4 : Scope := xS28m4.1
noncomputable def xA29 : {x : Arguments // x = sArgs (topS 29)} := ⟨_, by conv => rhs; whnf⟩
noncomputable def A29 : Arguments := xA29.1
noncomputable def xB29 : {x : List Stmt // x = sBody (topS 29)} := ⟨_, by conv => rhs; whnf⟩
noncomputable def B29 : List Stmt := xB29.1
noncomputable def xS29 : {x : Scope // x = sScope (topS 29)} := ⟨_, by conv => rhs; whnf⟩
noncomputable def S29 : Scope := xS29.1
noncomputable def xA30 : {x : Arguments // x = sArgs (topS 30)} := ⟨_, by conv => rhs; whnf⟩
noncomputable def A30 : Arguments := xA30.1
noncomputable def xB30 : {x : List Stmt // x = sBody (topS 30)} := ⟨_, by conv => rhs; whnf⟩
noncomputable def B30 : List Stmt := xB30.1
noncomputable def xS30 : {x : Scope // x = sScope (topS 30)} := ⟨_, by conv => rhs; whnf⟩
noncomputable def S30 : Scope := xS30.1
noncomputable def xA32m0 : {x : Arguments // x = sArgs (inS 32 0)} := ⟨_, by conv => rhs; whnf⟩
noncomputable def A32m0 : Arguments := xA32m0.1
noncomputable def xB32m0 : {x : List Stmt // x = sBody (inS 32 0)} := ⟨_, by conv => rhs; whnf⟩
noncomputable def B32m0 : List Stmt := xB32m0.1
noncomputable def xS32m0 : {x : Scope // x = sScope (inS 32 0)} := ⟨_, by conv => rhs; whnf⟩
noncomputable def S32m0 : Scope := xS32m0.1
noncomputable def xA32m1 : {x : Arguments // x = sArgs (inS 32 1)} := ⟨_, by conv => rhs; whnf⟩
noncomputable def A32m1 : Arguments := xA32m1.1
noncomputable def xB32m1 : {x : List Stmt // x = sBody (inS 32 1)} := ⟨_, by conv => rhs; whnf⟩
noncomputable def B32m1 : List Stmt := xB32m1.1
noncomputable def xS32m1 : {x : Scope // x = sScope (inS 32 1)} := ⟨_, by conv => rhs; whnf⟩
noncomputable def S32m1 : Scope := xS32m1.1
noncomputable def xA32m2 : {x : Arguments // x = sArgs (inS 32 2)} := ⟨_, by conv => rhs; whnf⟩
noncomputable def A32m2 : Arguments := xA32m2.1
noncomputable def xB32m2 : {x : List Stmt // x = sBody (inS 32 2)} := ⟨_, by conv => rhs; whnf⟩
noncomputable def B32m2 : List Stmt := xB32m2.1
noncomputable def xS32m2 : {x : Scope // x = sScope (inS 32 2)} := ⟨_, by conv => rhs; whnf⟩
noncomputable def S32m2 : Scope := xS32m2.1
noncomputable def xA32m3 : {x : Arguments // x = sArgs (inS 32 3)} := ⟨_, by conv => rhs; whnf⟩
noncomputable def A32m3 : Arguments := xA32m3.1
noncomputable def xB32m3 : {x : List Stmt // x = sBody (inS 32 3)} := ⟨_, by conv => rhs; whnf⟩
noncomputable def B32m3 : List Stmt := xB32m3.1
noncomputable def xS32m3 : {x : Scope // x = sScope (inS 32 3)} := ⟨_, by conv => rhs; whnf⟩
noncomputable def S32m3 : Scope := xS32m3.1
noncomputable def xA34 : {x : Arguments // x = sArgs (topS 34)} := ⟨_, by conv => rhs; whnf⟩
noncomputable def A34 : Arguments := xA34.1
noncomputable def xB34 : {x : List Stmt // x = sBody (topS 34)} := ⟨_, by conv => rhs; whnf⟩
noncomputable def B34 : List Stmt := xB34.1
noncomputable def xS34 : {x : Scope // x = sScope (topS 34)} := ⟨_, by conv => rhs; whnf⟩
noncomputable def S34 : Scope := xS34.1
noncomputable def xA35 : {x : Arguments // x = sArgs (topS 35)} := ⟨_, by conv => rhs; whnf⟩
noncomputable def A35 : Arguments := xA35.1
noncomputable def xB35 : {x : List Stmt // x = sBody (topS 35)} := ⟨_, by conv => rhs; whnf⟩
noncomputable def B35 : List Stmt := xB35.1
noncomputable def xS35 : {x : Scope // x = sScope (topS 35)} := ⟨_, by conv => rhs; whnf⟩
noncomputable def S35 : Scope := xS35.1
noncomputable def xA36 : {x : Arguments // x = sArgs (topS 36)} := ⟨_, by conv => rhs; whnf⟩
noncomputable def A36 : Arguments := xA36.1
noncomputable def xB36 : {x : List Stmt // x = sBody (topS 36)} := ⟨_, by conv => rhs; whnf⟩
noncomputable def B36 : List Stmt := xB36.1
noncomputable def xS36 : {x : Scope // x = sScope (topS 36)} := ⟨_, by conv => rhs; whnf⟩
noncomputable def S36 : Scope := xS36.1
noncomputable def xA37 : {x : Arguments // x = sArgs (topS 37)} := ⟨_, by conv => rhs; whnf⟩
noncomputable def A37 : Arguments := xA37.1
noncomputable def xB37 : {x : List Stmt // x = sBody (topS 37)} := ⟨_, by conv => rhs; whnf⟩
noncomputable def B37 : List Stmt := xB37.1
noncomputable def xS37 : {x : Scope // x = sScope (topS 37)} := ⟨_, by conv => rhs; whnf⟩
noncomputable def S37 : Scope := xS37.1
noncomputable def xA38 : {x : Arguments // x = sArgs (topS 38)} := ⟨_, by conv => rhs; whnf⟩
noncomputable def A38 : Arguments := xA38.1
noncomputable def xB38 : {x : List Stmt // x = sBody (topS 38)} := ⟨_, by conv => rhs; whnf⟩
noncomputable def B38 : List Stmt := xB38.1
noncomputable def xS38 : {x : Scope // x = sScope (topS 38)} := ⟨_, by conv => rhs; whnf⟩
noncomputable def S38 : Scope := xS38.1
noncomputable def xA39 : {x : Arguments // x = sArgs (topS 39)} := ⟨_, by conv => rhs; whnf⟩
noncomputable def A39 : Arguments := xA39.1
noncomputable def xB39 : {x : List Stmt // x = sBody (topS 39)} := ⟨_, by conv => rhs; whnf⟩
noncomputable def B39 : List Stmt := xB39.1
noncomputable def xS39 : {x : Scope // x = sScope (topS 39)} := ⟨_, by conv => rhs; whnf⟩
noncomputable def S39 : Scope := xS39.1
noncomputable def xA40 : {x : Arguments // x = sArgs (topS 40)} := ⟨_, by conv => rhs; whnf⟩
noncomputable def A40 : Arguments := xA40.1
noncomputable def xB40 : {x : List Stmt // x = sBody (topS 40)} := ⟨_, by conv => rhs; whnf⟩
noncomputable def B40 : List Stmt := xB40.1
noncomputable def xS40 : {x : Scope // x = sScope (topS 40)} := ⟨_, by conv => rhs; whnf⟩
noncomputable def S40 : Scope := xS40.1
noncomputable def xA41 : {x : Arguments // x = sArgs (topS 41)} := ⟨_, by conv => rhs; whnf⟩
noncomputable def A41 : Arguments := xA41.1
noncomputable def xB41 : {x : List Stmt // x = sBody (topS 41)} := ⟨_, by conv => rhs; whnf⟩
noncomputable def B41 : List Stmt := xB41.1
noncomputable def xS41 : {x : Scope // x = sScope (topS 41)} := ⟨_, by conv => rhs; whnf⟩
noncomputable def S41 : Scope := xS41.1
noncomputable def xT0 : {x : Stmt // x = topS 0} := ⟨_, by conv => rhs; whnf⟩
noncomputable def T0 : Stmt := xT0.1
noncomputable def xT2 : {x : Stmt // x = topS 2} := ⟨_, by conv => rhs; whnf⟩
noncomputable def T2 : Stmt := xT2.1
noncomputable def xT4 : {x : Stmt // x = topS 4} := ⟨_, by conv => rhs; whnf⟩
noncomputable def T4 : Stmt := xT4.1
noncomputable def xT5 : {x : Stmt // x = topS 5} := ⟨_, by conv => rhs; whnf⟩
noncomputable def T5 : Stmt := xT5.1
noncomputable def xT6 : {x : Stmt // x = topS 6} := ⟨_, by conv => rhs; whnf⟩
noncomputable def T6 : Stmt := xT6.1
noncomputable def xT7 : {x : Stmt // x = topS 7} := ⟨_, by conv => rhs; whnf⟩
noncomputable def T7 : Stmt := xT7.1
noncomputable def xT8 : {x : Stmt // x = topS 8} := ⟨_, by conv => rhs; whnf⟩
noncomputable def T8 : Stmt := xT8.1
noncomputable def xT9 : {x : Stmt // x = topS 9} := ⟨_, by conv => rhs; whnf⟩
noncomputable def T9 : Stmt := xT9.1
noncomputable def xT10 : {x : Stmt // x = topS 10} := ⟨_, by conv => rhs; whnf⟩
noncomputable def T10 : Stmt := xT10.1
noncomputable def xT11 : {x : Stmt // x = topS 11} := ⟨_, by conv => rhs; whnf⟩
noncomputable def T11 : Stmt := xT11.1
noncomputable def xT12 : {x : Stmt // x = topS 12} := ⟨_, by conv => rhs; whnf⟩
noncomputable def T12 : Stmt := xT12.1
noncomputable def xT13 : {x : Stmt // x = topS 13} := ⟨_, by conv => rhs; whnf⟩
noncomputable def T13 : Stmt := xT13.1
noncomputable def xT14 : {x : Stmt // x = topS 14} := ⟨_, by conv => rhs; whnf⟩
noncomputable def T14 : Stmt := xT14.1
noncomputable def xT15 : {x : Stmt // x = topS 15} := ⟨_, by conv => rhs; whnf⟩
noncomputable def T15 : Stmt := xT15.1
noncomputable def xT16 : {x : Stmt // x = topS 16} := ⟨_, by conv => rhs; whnf⟩
noncomputable def T16 : Stmt := xT16.1
noncomputable def xT17 : {x : Stmt // x = topS 17} := ⟨_, by conv => rhs; whnf⟩
noncomputable def T17 : Stmt := xT17.1
noncomputable def xT18 : {x : Stmt // x = topS 18} := ⟨_, by conv => rhs; whnf⟩
noncomputable def T18 : Stmt := xT18.1
noncomputable def xT20 : {x : Stmt // x = topS 20} := ⟨_, by conv => rhs; whnf⟩
noncomputable def T20 : Stmt := xT20.1
noncomputable def xT21 : {x : Stmt // x = topS 21} := ⟨_, by conv => rhs; whnf⟩
noncomputable def T21 : Stmt := xT21.1
noncomputable def xT22 : {x : Stmt // x = topS 22} := ⟨_, by conv => rhs; whnf⟩
noncomputable def T22 : Stmt := xT22.1
noncomputable def xT23 : {x : Stmt // x = topS 23} := ⟨_, by conv => rhs; whnf⟩
noncomputable def T23 : Stmt := xT23.1
noncomputable def xT24 : {x : Stmt // x = topS 24} := ⟨_, by conv => rhs; whnf⟩
noncomputable def T24 : Stmt := xT24.1
noncomputable def xT25 : {x : Stmt // x = topS 25} := ⟨_, by conv => rhs; whnf⟩
noncomputable def T25 : Stmt := xT25.1
noncomputable def xT26 : {x : Stmt // x = topS 26} := ⟨_, by conv => rhs; whnf⟩
noncomputable def T26 : Stmt := xT26.1
noncomputable def xT28 : {x : Stmt // x = topS 28} := ⟨_, by conv => rhs; whnf⟩
noncomputable def T28 : Stmt := xT28.1
noncomputable def xT29 : {x : Stmt // x = topS 29} := ⟨_, by conv => rhs; whnf⟩
noncomputable def T29 : Stmt := xT29.1
noncomputable def xT30 : {x : Stmt // x = topS 30} := ⟨_, by conv => rhs; whnf⟩
noncomputable def T30 : Stmt := xT30.1
noncomputable def xT32 : {x : Stmt // x = topS 32} := ⟨_, by conv => rhs; whnf⟩
noncomputable def T32 : Stmt := xT32.1
noncomputable def xT34 : {x : Stmt // x = topS 34} := ⟨_, by conv => rhs; whnf⟩
noncomputable def T34 : Stmt := xT34.1
noncomputable def xT35 : {x : Stmt // x = topS 35} := ⟨_, by conv => rhs; whnf⟩
noncomputable def T35 : Stmt := xT35.1
noncomputable def xT36 : {x : Stmt // x = topS 36} := ⟨_, by conv => rhs; whnf⟩
noncomputable def T36 : Stmt := xT36.1
noncomputable def xT37 : {x : Stmt // x = topS 37} := ⟨_, by conv => rhs; whnf⟩
noncomputable def T37 : Stmt := xT37.1
noncomputable def xT38 : {x : Stmt // x = topS 38} := ⟨_, by conv => rhs; whnf⟩
noncomputable def T38 : Stmt := xT38.1
noncomputable def xT39 : {x : Stmt // x = topS 39} := ⟨_, by conv => rhs; whnf⟩
noncomputable def T39 : Stmt := xT39.1
noncomputable def xT40 : {x : Stmt // x = topS 40} := ⟨_, by conv => rhs; whnf⟩
noncomputable def T40 : Stmt := xT40.1
noncomputable def xT41 : {x : Stmt // x = topS 41} := ⟨_, by conv => rhs; whnf⟩
noncomputable def T41 : Stmt := xT41.1
noncomputable def view0 : Program := { PySem.Challenge.rw_ok0055_01.row.toRowW.prog with main := { PySem.Challenge.rw_ok0055_01.row.toRowW.prog.main with body := [T0, T2, T4, T5, T6, T7, T8, T9, T10, T11, T12, T13, T14, T15, T16, T17, T18, T20, T21, T22, T23, T24, T25, T26, T28, T29, T30, T32, T34, T35, T36, T37, T38, T39, T40, T41] } }
noncomputable def K0 : Params → Frag := fun P => ((nat_lit 2, Obj.mk Value.none none (Data.dict #[DictEntry.mk (PyData.keyHash P (Str.ofString "type.__subclasses__.Exception.0")) (Value.str (Str.ofString "type.__subclasses__.Exception.0") 223) (Value.int 38 0), DictEntry.mk (PyData.keyHash P (Str.ofString "type.__subclasses__.Exception.n")) (Value.str (Str.ofString "type.__subclasses__.Exception.n") 224) (Value.int 1 0)] 2) #[]) :: (nat_lit 3, Obj.mk (Value.type "dict") none (Data.dict (List.toArray (DictEntry.mk (PyData.keyHash P (Str.ofString "__name__")) (Value.str (Str.ofString "__name__") 165) (Value.str (Str.ofString "law_ok0055_01") 687) :: DictEntry.mk (PyData.keyHash P (Str.ofString "__doc__")) (Value.str (Str.ofString "__doc__") 166) Value.none :: DictEntry.mk (PyData.keyHash P (Str.ofString "__package__")) (Value.str (Str.ofString "__package__") 167) Value.none :: DictEntry.mk (PyData.keyHash P (Str.ofString "__loader__")) (Value.str (Str.ofString "__loader__") 168) (Value.builtin "__main__.__loader__#opaque") :: DictEntry.mk (PyData.keyHash P (Str.ofString "__spec__")) (Value.str (Str.ofString "__spec__") 169) Value.none :: DictEntry.mk (PyData.keyHash P (Str.ofString "__annotations__")) (Value.str (Str.ofString "__annotations__") 170) (Value.ref 6) :: DictEntry.mk (PyData.keyHash P (Str.ofString "__builtins__")) (Value.str (Str.ofString "__builtins__") 171) (Value.ref 4) :: DictEntry.mk (PyData.keyHash P (Str.ofString "__file__")) (Value.str (Str.ofString "__file__") 173) (Value.str (Str.ofString "/claim/cut.py") 172) :: DictEntry.mk (PyData.keyHash P (Str.ofString "__cached__")) (Value.str (Str.ofString "__cached__") 174) Value.none :: DictEntry.mk (PyData.keyHash P (Str.ofString "_wall")) (Value.str (Str.ofString "_wall") 193) (Value.ref 21) :: DictEntry.mk (PyData.keyHash P (Str.ofString "LispSignal")) (Value.str (Str.ofString "LispSignal") 226) (Value.ref 38) :: DictEntry.mk (PyData.keyHash P (Str.ofString "WHITESPACE")) (Value.str (Str.ofString "WHITESPACE") 230) (Value.str (Str.ofString " ") 229) :: DictEntry.mk (PyData.keyHash P (Str.ofString "WORD")) (Value.str (Str.ofString "WORD") 232) (Value.str (Str.ofString "w") 231) :: DictEntry.mk (PyData.keyHash P (Str.ofString "PUNCTUATION")) (Value.str (Str.ofString "PUNCTUATION") 234) (Value.str (Str.ofString ".") 233) :: DictEntry.mk (PyData.keyHash P (Str.ofString "ESCAPE")) (Value.str (Str.ofString "ESCAPE") 236) (Value.str (Str.ofString "\\") 235) :: DictEntry.mk (PyData.keyHash P (Str.ofString "QUOTES")) (Value.str (Str.ofString "QUOTES") 238) (Value.str (Str.ofString "/") 237) :: DictEntry.mk (PyData.keyHash P (Str.ofString "BEGINS")) (Value.str (Str.ofString "BEGINS") 240) (Value.str (Str.ofString "<") 239) :: DictEntry.mk (PyData.keyHash P (Str.ofString "ENDS")) (Value.str (Str.ofString "ENDS") 242) (Value.str (Str.ofString ">") 241) :: DictEntry.mk (PyData.keyHash P (Str.ofString "INHERITS")) (Value.str (Str.ofString "INHERITS") 244) (Value.str (Str.ofString "@") 243) :: DictEntry.mk (PyData.keyHash P (Str.ofString "COMMENT_FENCE")) (Value.str (Str.ofString "COMMENT_FENCE") 246) (Value.str (Str.ofString "!") 245) :: DictEntry.mk (PyData.keyHash P (Str.ofString "KINDS")) (Value.str (Str.ofString "KINDS") 248) (Value.str (Str.ofString " w_.()'\"\\/$<>@!|") 247) :: DictEntry.mk (PyData.keyHash P (Str.ofString "FLAGS")) (Value.str (Str.ofString "FLAGS") 250) (Value.str (Str.ofString "1234bcnp") 249) :: DictEntry.mk (PyData.keyHash P (Str.ofString "Syntax")) (Value.str (Str.ofString "Syntax") 312) (Value.ref 86) :: DictEntry.mk (PyData.keyHash P (Str.ofString "sorted_flags")) (Value.str (Str.ofString "sorted_flags") 318) (Value.ref 95) :: DictEntry.mk (PyData.keyHash P (Str.ofString "read_syntax")) (Value.str (Str.ofString "read_syntax") 324) (Value.ref 100) :: DictEntry.mk (PyData.keyHash P (Str.ofString "SyntaxTable")) (Value.str (Str.ofString "SyntaxTable") 416) (Value.ref 167) :: DictEntry.mk (PyData.keyHash P (Str.ofString "Mark")) (Value.str (Str.ofString "Mark") 453) (Value.ref 188) :: DictEntry.mk (PyData.keyHash P (Str.ofString "syntax_at")) (Value.str (Str.ofString "syntax_at") 463) (Value.ref 199) :: DictEntry.mk (PyData.keyHash P (Str.ofString "pair_style")) (Value.str (Str.ofString "pair_style") 472) (Value.ref 206) :: DictEntry.mk (PyData.keyHash P (Str.ofString "begin_mark")) (Value.str (Str.ofString "begin_mark") 483) (Value.ref 213) :: DictEntry.mk (PyData.keyHash P (Str.ofString "end_mark")) (Value.str (Str.ofString "end_mark") 494) (Value.ref 220) :: DictEntry.mk (PyData.keyHash P (Str.ofString "fits")) (Value.str (Str.ofString "fits") 504) (Value.ref 227) :: DictEntry.mk (PyData.keyHash P (Str.ofString "is_quoted")) (Value.str (Str.ofString "is_quoted") 515) (Value.ref 234) :: DictEntry.mk (PyData.keyHash P (Str.ofString "ParseState")) (Value.str (Str.ofString "ParseState") 602) (Value.ref 281) :: DictEntry.mk (PyData.keyHash P (Str.ofString "state_of")) (Value.str (Str.ofString "state_of") 621) (Value.ref 292) :: DictEntry.mk (PyData.keyHash P (Str.ofString "told_state")) (Value.str (Str.ofString "told_state") 630) (Value.ref 299) :: DictEntry.mk (PyData.keyHash P (Str.ofString "TextRow")) (Value.str (Str.ofString "TextRow") 686) (Value.ref 338) :: DictEntry.mk (PyData.keyHash P (Str.ofString "_law_draw")) (Value.str (Str.ofString "_law_draw") 696) (Value.ref 349) :: DictEntry.mk (PyData.keyHash P (Str.ofString "_law_sign")) (Value.str (Str.ofString "_law_sign") 702) (Value.ref 354) :: DictEntry.mk (PyData.keyHash P (Str.ofString "_law_mark")) (Value.str (Str.ofString "_law_mark") 713) (Value.ref 361) :: DictEntry.mk (PyData.keyHash P (Str.ofString "_law_shown")) (Value.str (Str.ofString "_law_shown") 720) (Value.ref 368) :: DictEntry.mk (PyData.keyHash P (Str.ofString "_law_is_fit")) (Value.str (Str.ofString "_law_is_fit") 730) (Value.ref 375) :: DictEntry.mk (PyData.keyHash P (Str.ofString "_law_state")) (Value.str (Str.ofString "_law_state") 736) (Value.ref 380) :: DictEntry.mk (PyData.keyHash P (Str.ofString "_law_is_state_right")) (Value.str (Str.ofString "_law_is_state_right") 759) (Value.ref 387) :: DictEntry.mk (PyData.keyHash P (Str.ofString "law")) (Value.str (Str.ofString "law") 765) (Value.ref 392) :: [])) 45) #[]) :: (nat_lit 15, Obj.mk (Value.type "tuple") none (Data.seq #[]) #[]) :: (nat_lit 17, Obj.mk (Value.type "tuple") none (Data.seq #[Value.str (Str.ofString "k") 190]) #[]) :: (nat_lit 18, Obj.mk (Value.type "tuple") none (Data.seq #[]) #[]) :: (nat_lit 20, Obj.mk (Value.type "code") none (Data.fields (List.toArray (Value.str (Str.ofString "_wall") 187 :: Value.str (Str.ofString "_wall") 188 :: Value.str (Str.ofString "/claim/cut.py") 189 :: Value.int 1 0 :: Value.int 1 0 :: Value.int 0 0 :: Value.int 0 0 :: Value.int 3 0 :: Value.ref 15 :: Value.bool true :: Value.int 181 0 :: Value.ref 16 :: Value.none :: Value.ref 17 :: Value.ref 18 :: Value.ref 19 :: Value.int 191 0 :: Value.int 1 0 :: Value.str (Str.ofString "/claim/cut.py") 192 :: []))) #[]) :: (nat_lit 21, Obj.mk (Value.type "function") none (Data.func (FuncData.mk (Str.ofString "_wall") (Str.ofString "_wall") A0 (FuncBody.stmts B0) S0 3 [] Value.none Value.none Value.none (Value.str (Str.ofString "__main__") 164) none (Value.ref 20) Value.none 0)) #[]) :: (nat_lit 22, Obj.mk (Value.type "tuple") none (Data.seq #[Value.type "Exception"]) #[]) :: (nat_lit 29, Obj.mk (Value.type "tuple") none (Data.seq #[]) #[]) :: (nat_lit 31, Obj.mk (Value.type "tuple") none (Data.seq #[Value.str (Str.ofString "self") 211, Value.str (Str.ofString "symbol") 212, Value.str (Str.ofString "data") 213]) #[]) :: (nat_lit 32, Obj.mk (Value.type "tuple") none (Data.seq #[]) #[]) :: (nat_lit 34, Obj.mk (Value.type "code") none (Data.fields (List.toArray (Value.str (Str.ofString "__init__") 208 :: Value.str (Str.ofString "LispSignal.__init__") 209 :: Value.str (Str.ofString "/claim/cut.py") 210 :: Value.int 7 0 :: Value.int 3 0 :: Value.int 0 0 :: Value.int 0 0 :: Value.int 3 0 :: Value.ref 29 :: Value.bool true :: Value.int 181 0 :: Value.ref 30 :: Value.none :: Value.ref 31 :: Value.ref 32 :: Value.ref 33 :: Value.int 214 0 :: Value.int 7 0 :: Value.str (Str.ofString "/claim/cut.py") 215 :: []))) #[]) :: (nat_lit 35, Obj.mk (Value.type "function") none (Data.func (FuncData.mk (Str.ofString "__init__") (Str.ofString "LispSignal.__init__") A2m0 (FuncBody.stmts B2m0) S2m0 3 [] Value.none Value.none Value.none (Value.str (Str.ofString "emacs.errors") 194) none (Value.ref 34) Value.none 0)) #[]) :: (nat_lit 36, Obj.mk (Value.type "tuple") none (Data.seq #[Value.str (Str.ofString "data") 217, Value.str (Str.ofString "symbol") 218]) #[]) :: (nat_lit 37, Obj.mk (Value.type "dict") none (Data.dict #[DictEntry.mk (PyData.keyHash P (Str.ofString "__module__")) (Value.str (Str.ofString "__module__") 203) (Value.str (Str.ofString "emacs.errors") 194), DictEntry.mk (PyData.keyHash P (Str.ofString "__firstlineno__")) (Value.str (Str.ofString "__firstlineno__") 207) (Value.int 5 206), DictEntry.mk (PyData.keyHash P (Str.ofString "__init__")) (Value.str (Str.ofString "__init__") 216) (Value.ref 35), DictEntry.mk (PyData.keyHash P (Str.ofString "__static_attributes__")) (Value.str (Str.ofString "__static_attributes__") 219) (Value.ref 36), DictEntry.mk (PyData.keyHash P (Str.ofString "__weakref__")) (Value.str (Str.ofString "__weakref__") 221) (Value.ref 39), DictEntry.mk (PyData.keyHash P (Str.ofString "__doc__")) (Value.str (Str.ofString "__doc__") 222) Value.none] 3) #[]) :: (nat_lit 38, Obj.mk (Value.type "type") none (Data.cls (ClassData.mk (Str.ofString "LispSignal") [Value.type "Exception"] [Value.ref 38, Value.type "Exception", Value.type "BaseException", Value.type "object"] 37 (Str.ofString "LispSignal") true [] [] false none false)) #[some (Value.ref 22), none, some (Value.str (Str.ofString "LispSignal") 196), some (Value.str (Str.ofString "LispSignal") 204), some (Value.builtin "Exception.__new__"), some (Value.bool true)]) :: (nat_lit 39, Obj.mk (Value.type "getset_descriptor") none (Data.fields #[Value.str (Str.ofString "__weakref__") 220, Value.ref 38, Value.builtin "ExceptionGroup.__weakref__", Value.none]) #[]) :: (nat_lit 49, Obj.mk (Value.type "tuple") none (Data.seq #[]) #[]) :: (nat_lit 51, Obj.mk (Value.type "tuple") none (Data.seq #[Value.str (Str.ofString "self") 266, Value.str (Str.ofString "kind") 267, Value.str (Str.ofString "match") 268, Value.str (Str.ofString "flags") 269]) #[]) :: (nat_lit 52, Obj.mk (Value.type "tuple") none (Data.seq #[]) #[]) :: (nat_lit 54, Obj.mk (Value.type "code") none (Data.fields (List.toArray (Value.str (Str.ofString "__init__") 263 :: Value.str (Str.ofString "Syntax.__init__") 264 :: Value.str (Str.ofString "/claim/cut.py") 265 :: Value.int 24 0 :: Value.int 4 0 :: Value.int 0 0 :: Value.int 0 0 :: Value.int 3 0 :: Value.ref 49 :: Value.bool true :: Value.int 181 0 :: Value.ref 50 :: Value.none :: Value.ref 51 :: Value.ref 52 :: Value.ref 53 :: Value.int 270 0 :: Value.int 24 0 :: Value.str (Str.ofString "/claim/cut.py") 271 :: []))) #[]) :: (nat_lit 55, Obj.mk (Value.type "function") none (Data.func (FuncData.mk (Str.ofString "__init__") (Str.ofString "Syntax.__init__") A15m0 (FuncBody.stmts B15m0) S15m0 3 [] Value.none Value.none Value.none (Value.str (Str.ofString "emacs.syntax") 227) none (Value.ref 54) Value.none 0)) #[]) :: (nat_lit 56, Obj.mk (Value.type "tuple") none (Data.seq #[]) #[]) :: (nat_lit 58, Obj.mk (Value.type "tuple") none (Data.seq #[Value.str (Str.ofString "self") 276, Value.str (Str.ofString "flag") 277]) #[]) :: (nat_lit 59, Obj.mk (Value.type "tuple") none (Data.seq #[]) #[]) :: (nat_lit 61, Obj.mk (Value.type "code") none (Data.fields (List.toArray (Value.str (Str.ofString "has") 273 :: Value.str (Str.ofString "Syntax.has") 274 :: Value.str (Str.ofString "/claim/cut.py") 275 :: Value.int 29 0 :: Value.int 2 0 :: Value.int 0 0 :: Value.int 0 0 :: Value.int 3 0 :: Value.ref 56 :: Value.bool true :: Value.int 181 0 :: Value.ref 57 :: Value.none :: Value.ref 58 :: Value.ref 59 :: Value.ref 60 :: Value.int 278 0 :: Value.int 29 0 :: Value.str (Str.ofString "/claim/cut.py") 279 :: []))) #[]) :: (nat_lit 62, Obj.mk (Value.type "function") none (Data.func (FuncData.mk (Str.ofString "has") (Str.ofString "Syntax.has") A15m1 (FuncBody.stmts B15m1) S15m1 3 [] Value.none Value.none Value.none (Value.str (Str.ofString "emacs.syntax") 227) none (Value.ref 61) Value.none 0)) #[]) :: (nat_lit 63, Obj.mk (Value.type "tuple") none (Data.seq #[]) #[]) :: (nat_lit 65, Obj.mk (Value.type "tuple") none (Data.seq #[Value.str (Str.ofString "self") 284]) #[]) :: (nat_lit 66, Obj.mk (Value.type "tuple") none (Data.seq #[]) #[]) :: (nat_lit 68, Obj.mk (Value.type "code") none (Data.fields (List.toArray (Value.str (Str.ofString "is_escape") 281 :: Value.str (Str.ofString "Syntax.is_escape") 282 :: Value.str (Str.ofString "/claim/cut.py") 283 :: Value.int 32 0 :: Value.int 1 0 :: Value.int 0 0 :: Value.int 0 0 :: Value.int 3 0 :: Value.ref 63 :: Value.bool true :: Value.int 181 0 :: Value.ref 64 :: Value.none :: Value.ref 65 :: Value.ref 66 :: Value.ref 67 :: Value.int 285 0 :: Value.int 32 0 :: Value.str (Str.ofString "/claim/cut.py") 286 :: []))) #[]) :: (nat_lit 69, Obj.mk (Value.type "function") none (Data.func (FuncData.mk (Str.ofString "is_escape") (Str.ofString "Syntax.is_escape") A15m2 (FuncBody.stmts B15m2) S15m2 3 [] Value.none Value.none Value.none (Value.str (Str.ofString "emacs.syntax") 227) none (Value.ref 68) Value.none 0)) #[]) :: (nat_lit 70, Obj.mk (Value.type "tuple") none (Data.seq #[]) #[]) :: (nat_lit 72, Obj.mk (Value.type "tuple") none (Data.seq #[Value.str (Str.ofString "self") 291]) #[]) :: (nat_lit 73, Obj.mk (Value.type "tuple") none (Data.seq #[]) #[]) :: (nat_lit 75, Obj.mk (Value.type "code") none (Data.fields (List.toArray (Value.str (Str.ofString "is_word_part") 288 :: Value.str (Str.ofString "Syntax.is_word_part") 289 :: Value.str (Str.ofString "/claim/cut.py") 290 :: Value.int 35 0 :: Value.int 1 0 :: Value.int 0 0 :: Value.int 0 0 :: Value.int 3 0 :: Value.ref 70 :: Value.bool true :: Value.int 181 0 :: Value.ref 71 :: Value.none :: Value.ref 72 :: Value.ref 73 :: Value.ref 74 :: Value.int 292 0 :: Value.int 35 0 :: Value.str (Str.ofString "/claim/cut.py") 293 :: []))) #[]) :: (nat_lit 76, Obj.mk (Value.type "function") none (Data.func (FuncData.mk (Str.ofString "is_word_part") (Str.ofString "Syntax.is_word_part") A15m3 (FuncBody.stmts B15m3) S15m3 3 [] Value.none Value.none Value.none (Value.str (Str.ofString "emacs.syntax") 227) none (Value.ref 75) Value.none 0)) #[]) :: (nat_lit 77, Obj.mk (Value.type "tuple") none (Data.seq #[]) #[]) :: (nat_lit 79, Obj.mk (Value.type "tuple") none (Data.seq #[Value.str (Str.ofString "self") 298]) #[]) :: (nat_lit 80, Obj.mk (Value.type "tuple") none (Data.seq #[]) #[]) :: (nat_lit 82, Obj.mk (Value.type "code") none (Data.fields (List.toArray (Value.str (Str.ofString "style") 295 :: Value.str (Str.ofString "Syntax.style") 296 :: Value.str (Str.ofString "/claim/cut.py") 297 :: Value.int 38 0 :: Value.int 1 0 :: Value.int 0 0 :: Value.int 0 0 :: Value.int 3 0 :: Value.ref 77 :: Value.bool true :: Value.int 181 0 :: Value.ref 78 :: Value.none :: Value.ref 79 :: Value.ref 80 :: Value.ref 81 :: Value.int 299 0 :: Value.int 38 0 :: Value.str (Str.ofString "/claim/cut.py") 300 :: []))) #[]) :: (nat_lit 83, Obj.mk (Value.type "function") none (Data.func (FuncData.mk (Str.ofString "style") (Str.ofString "Syntax.style") A15m4 (FuncBody.stmts B15m4) S15m4 3 [] Value.none Value.none Value.none (Value.str (Str.ofString "emacs.syntax") 227) none (Value.ref 82) Value.none 0)) #[]) :: (nat_lit 84, Obj.mk (Value.type "tuple") none (Data.seq #[Value.str (Str.ofString "flags") 302, Value.str (Str.ofString "kind") 303, Value.str (Str.ofString "match") 304]) #[]) :: (nat_lit 85, Obj.mk (Value.type "dict") none (Data.dict #[DictEntry.mk (PyData.keyHash P (Str.ofString "__module__")) (Value.str (Str.ofString "__module__") 258) (Value.str (Str.ofString "emacs.syntax") 227), DictEntry.mk (PyData.keyHash P (Str.ofString "__firstlineno__")) (Value.str (Str.ofString "__firstlineno__") 262) (Value.int 22 261), DictEntry.mk (PyData.keyHash P (Str.ofString "__init__")) (Value.str (Str.ofString "__init__") 272) (Value.ref 55), DictEntry.mk (PyData.keyHash P (Str.ofString "has")) (Value.str (Str.ofString "has") 280) (Value.ref 62), DictEntry.mk (PyData.keyHash P (Str.ofString "is_escape")) (Value.str (Str.ofString "is_escape") 287) (Value.ref 69), DictEntry.mk (PyData.keyHash P (Str.ofString "is_word_part")) (Value.str (Str.ofString "is_word_part") 294) (Value.ref 76), DictEntry.mk (PyData.keyHash P (Str.ofString "style")) (Value.str (Str.ofString "style") 301) (Value.ref 83), DictEntry.mk (PyData.keyHash P (Str.ofString "__static_attributes__")) (Value.str (Str.ofString "__static_attributes__") 305) (Value.ref 84), DictEntry.mk (PyData.keyHash P (Str.ofString "__dict__")) (Value.str (Str.ofString "__dict__") 307) (Value.ref 87), DictEntry.mk (PyData.keyHash P (Str.ofString "__weakref__")) (Value.str (Str.ofString "__weakref__") 309) (Value.ref 88), DictEntry.mk (PyData.keyHash P (Str.ofString "__doc__")) (Value.str (Str.ofString "__doc__") 310) Value.none] 4) #[]) :: (nat_lit 86, Obj.mk (Value.type "type") none (Data.cls (ClassData.mk (Str.ofString "Syntax") [Value.type "object"] [Value.ref 86, Value.type "object"] 85 (Str.ofString "Syntax") true [] [] false none false)) #[none, none, some (Value.str (Str.ofString "Syntax") 251), some (Value.str (Str.ofString "Syntax") 259), some (Value.builtin "object.__new__"), some (Value.bool true)]) :: (nat_lit 87, Obj.mk (Value.type "getset_descriptor") none (Data.fields #[Value.str (Str.ofString "__dict__") 306, Value.ref 86, Value.builtin "function.__dict__", Value.builtin "function.__dict__#set"]) #[]) :: (nat_lit 88, Obj.mk (Value.type "getset_descriptor") none (Data.fields #[Value.str (Str.ofString "__weakref__") 308, Value.ref 86, Value.builtin "ExceptionGroup.__weakref__", Value.none]) #[]) :: (nat_lit 91, Obj.mk (Value.type "tuple") none (Data.seq #[]) #[]) :: (nat_lit 94, Obj.mk (Value.type "code") none (Data.fields (List.toArray (Value.str (Str.ofString "sorted_flags") 313 :: Value.str (Str.ofString "sorted_flags") 314 :: Value.str (Str.ofString "/claim/cut.py") 315 :: Value.int 40 0 :: Value.int 1 0 :: Value.int 0 0 :: Value.int 0 0 :: Value.int 3 0 :: Value.ref 91 :: Value.bool true :: Value.int 181 0 :: Value.ref 92 :: Value.none :: Value.none :: Value.none :: Value.ref 93 :: Value.int 316 0 :: Value.int 40 0 :: Value.str (Str.ofString "/claim/cut.py") 317 :: []))) #[]) :: (nat_lit 95, Obj.mk (Value.type "function") none (Data.func (FuncData.mk (Str.ofString "sorted_flags") (Str.ofString "sorted_flags") A16 (FuncBody.stmts B16) S16 3 [] Value.none Value.none Value.none (Value.str (Str.ofString "emacs.syntax") 227) none (Value.ref 94) Value.none 0)) #[]) :: (nat_lit 96, Obj.mk (Value.type "tuple") none (Data.seq #[]) #[]) :: (nat_lit 99, Obj.mk (Value.type "code") none (Data.fields (List.toArray (Value.str (Str.ofString "read_syntax") 319 :: Value.str (Str.ofString "read_syntax") 320 :: Value.str (Str.ofString "/claim/cut.py") 321 :: Value.int 42 0 :: Value.int 1 0 :: Value.int 0 0 :: Value.int 0 0 :: Value.int 3 0 :: Value.ref 96 :: Value.bool true :: Value.int 181 0 :: Value.ref 97 :: Value.none :: Value.none :: Value.none :: Value.ref 98 :: Value.int 322 0 :: Value.int 42 0 :: Value.str (Str.ofString "/claim/cut.py") 323 :: []))) #[]) :: (nat_lit 100, Obj.mk (Value.type "function") none (Data.func (FuncData.mk (Str.ofString "read_syntax") (Str.ofString "read_syntax") A17 (FuncBody.stmts B17) S17 3 [] Value.none Value.none Value.none (Value.str (Str.ofString "emacs.syntax") 227) none (Value.ref 99) Value.none 0)) #[]) :: (nat_lit 108, Obj.mk (Value.type "tuple") none (Data.seq #[Value.none]) #[]) :: (nat_lit 109, Obj.mk (Value.type "tuple") none (Data.seq #[]) #[]) :: (nat_lit 111, Obj.mk (Value.type "tuple") none (Data.seq #[Value.str (Str.ofString "self") 340, Value.str (Str.ofString "parent") 341]) #[]) :: (nat_lit 112, Obj.mk (Value.type "tuple") none (Data.seq #[]) #[]) :: (nat_lit 114, Obj.mk (Value.type "code") none (Data.fields (List.toArray (Value.str (Str.ofString "__init__") 337 :: Value.str (Str.ofString "SyntaxTable.__init__") 338 :: Value.str (Str.ofString "/claim/cut.py") 339 :: Value.int 53 0 :: Value.int 2 0 :: Value.int 0 0 :: Value.int 0 0 :: Value.int 3 0 :: Value.ref 109 :: Value.bool true :: Value.int 181 0 :: Value.ref 110 :: Value.none :: Value.ref 111 :: Value.ref 112 :: Value.ref 113 :: Value.int 342 0 :: Value.int 53 0 :: Value.str (Str.ofString "/claim/cut.py") 343 :: []))) #[]) :: (nat_lit 115, Obj.mk (Value.type "function") none (Data.func (FuncData.mk (Str.ofString "__init__") (Str.ofString "SyntaxTable.__init__") A18m0 (FuncBody.stmts B18m0) S18m0 3 [] (Value.ref 108) Value.none Value.none (Value.str (Str.ofString "emacs.syntax") 227) none (Value.ref 114) Value.none 0)) #[]) :: (nat_lit 116, Obj.mk (Value.type "tuple") none (Data.seq #[]) #[]) :: (nat_lit 118, Obj.mk (Value.type "tuple") none (Data.seq #[Value.str (Str.ofString "self") 348, Value.str (Str.ofString "code") 349, Value.str (Str.ofString "syntax") 350]) #[]) :: (nat_lit 119, Obj.mk (Value.type "tuple") none (Data.seq #[]) #[]) :: (nat_lit 121, Obj.mk (Value.type "code") none (Data.fields (List.toArray (Value.str (Str.ofString "modify") 345 :: Value.str (Str.ofString "SyntaxTable.modify") 346 :: Value.str (Str.ofString "/claim/cut.py") 347 :: Value.int 57 0 :: Value.int 3 0 :: Value.int 0 0 :: Value.int 0 0 :: Value.int 3 0 :: Value.ref 116 :: Value.bool true :: Value.int 181 0 :: Value.ref 117 :: Value.none :: Value.ref 118 :: Value.ref 119 :: Value.ref 120 :: Value.int 351 0 :: Value.int 57 0 :: Value.str (Str.ofString "/claim/cut.py") 352 :: []))) #[]) :: (nat_lit 122, Obj.mk (Value.type "function") none (Data.func (FuncData.mk (Str.ofString "modify") (Str.ofString "SyntaxTable.modify") A18m1 (FuncBody.stmts B18m1) S18m1 3 [] Value.none Value.none Value.none (Value.str (Str.ofString "emacs.syntax") 227) none (Value.ref 121) Value.none 0)) #[]) :: (nat_lit 123, Obj.mk (Value.type "tuple") none (Data.seq #[]) #[]) :: (nat_lit 125, Obj.mk (Value.type "tuple") none (Data.seq #[Value.str (Str.ofString "self") 357, Value.str (Str.ofString "text") 358, Value.str (Str.ofString "description") 359]) #[]) :: (nat_lit 126, Obj.mk (Value.type "tuple") none (Data.seq #[]) #[]) :: (nat_lit 128, Obj.mk (Value.type "code") none (Data.fields (List.toArray (Value.str (Str.ofString "modify_all") 354 :: Value.str (Str.ofString "SyntaxTable.modify_all") 355 :: Value.str (Str.ofString "/claim/cut.py") 356 :: Value.int 60 0 :: Value.int 3 0 :: Value.int 0 0 :: Value.int 0 0 :: Value.int 3 0 :: Value.ref 123 :: Value.bool true :: Value.int 181 0 :: Value.ref 124 :: Value.none :: Value.ref 125 :: Value.ref 126 :: Value.ref 127 :: Value.int 360 0 :: Value.int 60 0 :: Value.str (Str.ofString "/claim/cut.py") 361 :: []))) #[]) :: (nat_lit 129, Obj.mk (Value.type "function") none (Data.func (FuncData.mk (Str.ofString "modify_all") (Str.ofString "SyntaxTable.modify_all") A18m2 (FuncBody.stmts B18m2) S18m2 3 [] Value.none Value.none Value.none (Value.str (Str.ofString "emacs.syntax") 227) none (Value.ref 128) Value.none 0)) #[]) :: (nat_lit 130, Obj.mk (Value.type "tuple") none (Data.seq #[]) #[]) :: (nat_lit 132, Obj.mk (Value.type "tuple") none (Data.seq #[Value.str (Str.ofString "self") 366, Value.str (Str.ofString "first") 367, Value.str (Str.ofString "last") 368, Value.str (Str.ofString "syntax") 369]) #[]) :: (nat_lit 133, Obj.mk (Value.type "tuple") none (Data.seq #[]) #[]) :: (nat_lit 135, Obj.mk (Value.type "code") none (Data.fields (List.toArray (Value.str (Str.ofString "modify_range") 363 :: Value.str (Str.ofString "SyntaxTable.modify_range") 364 :: Value.str (Str.ofString "/claim/cut.py") 365 :: Value.int 63 0 :: Value.int 4 0 :: Value.int 0 0 :: Value.int 0 0 :: Value.int 3 0 :: Value.ref 130 :: Value.bool true :: Value.int 181 0 :: Value.ref 131 :: Value.none :: Value.ref 132 :: Value.ref 133 :: Value.ref 134 :: Value.int 370 0 :: Value.int 63 0 :: Value.str (Str.ofString "/claim/cut.py") 371 :: []))) #[]) :: (nat_lit 136, Obj.mk (Value.type "function") none (Data.func (FuncData.mk (Str.ofString "modify_range") (Str.ofString "SyntaxTable.modify_range") A18m3 (FuncBody.stmts B18m3) S18m3 3 [] Value.none Value.none Value.none (Value.str (Str.ofString "emacs.syntax") 227) none (Value.ref 135) Value.none 0)) #[]) :: (nat_lit 137, Obj.mk (Value.type "tuple") none (Data.seq #[]) #[]) :: (nat_lit 139, Obj.mk (Value.type "tuple") none (Data.seq #[Value.str (Str.ofString "self") 376, Value.str (Str.ofString "code") 377, Value.str (Str.ofString "found") 378]) #[]) :: (nat_lit 140, Obj.mk (Value.type "tuple") none (Data.seq #[]) #[]) :: (nat_lit 142, Obj.mk (Value.type "code") none (Data.fields (List.toArray (Value.str (Str.ofString "own") 373 :: Value.str (Str.ofString "SyntaxTable.own") 374 :: Value.str (Str.ofString "/claim/cut.py") 375 :: Value.int 66 0 :: Value.int 2 0 :: Value.int 0 0 :: Value.int 0 0 :: Value.int 3 0 :: Value.ref 137 :: Value.bool true :: Value.int 181 0 :: Value.ref 138 :: Value.none :: Value.ref 139 :: Value.ref 140 :: Value.ref 141 :: Value.int 379 0 :: Value.int 66 0 :: Value.str (Str.ofString "/claim/cut.py") 380 :: []))) #[]) :: (nat_lit 143, Obj.mk (Value.type "function") none (Data.func (FuncData.mk (Str.ofString "own") (Str.ofString "SyntaxTable.own") A18m4 (FuncBody.stmts B18m4) S18m4 3 [] Value.none Value.none Value.none (Value.str (Str.ofString "emacs.syntax") 227) none (Value.ref 142) Value.none 0)) #[]) :: (nat_lit 144, Obj.mk (Value.type "tuple") none (Data.seq #[]) #[]) :: (nat_lit 146, Obj.mk (Value.type "tuple") none (Data.seq #[Value.str (Str.ofString "self") 385, Value.str (Str.ofString "code") 386, Value.str (Str.ofString "table") 387, Value.str (Str.ofString "found") 388]) #[]) :: (nat_lit 147, Obj.mk (Value.type "tuple") none (Data.seq #[]) #[]) :: (nat_lit 149, Obj.mk (Value.type "code") none (Data.fields (List.toArray (Value.str (Str.ofString "at") 382 :: Value.str (Str.ofString "SyntaxTable.at") 383 :: Value.str (Str.ofString "/claim/cut.py") 384 :: Value.int 70 0 :: Value.int 2 0 :: Value.int 0 0 :: Value.int 0 0 :: Value.int 3 0 :: Value.ref 144 :: Value.bool true :: Value.int 181 0 :: Value.ref 145 :: Value.none :: Value.ref 146 :: Value.ref 147 :: Value.ref 148 :: Value.int 389 0 :: Value.int 70 0 :: Value.str (Str.ofString "/claim/cut.py") 390 :: []))) #[]) :: (nat_lit 150, Obj.mk (Value.type "function") none (Data.func (FuncData.mk (Str.ofString "at") (Str.ofString "SyntaxTable.at") A18m5 (FuncBody.stmts B18m5) S18m5 3 [] Value.none Value.none Value.none (Value.str (Str.ofString "emacs.syntax") 227) none (Value.ref 149) Value.none 0)) #[]) :: (nat_lit 151, Obj.mk (Value.type "tuple") none (Data.seq #[]) #[]) :: (nat_lit 153, Obj.mk (Value.type "tuple") none (Data.seq #[Value.str (Str.ofString "self") 395, Value.str (Str.ofString "code") 396]) #[]) :: (nat_lit 154, Obj.mk (Value.type "tuple") none (Data.seq #[]) #[]) :: (nat_lit 156, Obj.mk (Value.type "code") none (Data.fields (List.toArray (Value.str (Str.ofString "kind_of") 392 :: Value.str (Str.ofString "SyntaxTable.kind_of") 393 :: Value.str (Str.ofString "/claim/cut.py") 394 :: Value.int 79 0 :: Value.int 2 0 :: Value.int 0 0 :: Value.int 0 0 :: Value.int 3 0 :: Value.ref 151 :: Value.bool true :: Value.int 181 0 :: Value.ref 152 :: Value.none :: Value.ref 153 :: Value.ref 154 :: Value.ref 155 :: Value.int 397 0 :: Value.int 79 0 :: Value.str (Str.ofString "/claim/cut.py") 398 :: []))) #[]) :: (nat_lit 157, Obj.mk (Value.type "function") none (Data.func (FuncData.mk (Str.ofString "kind_of") (Str.ofString "SyntaxTable.kind_of") A18m6 (FuncBody.stmts B18m6) S18m6 3 [] Value.none Value.none Value.none (Value.str (Str.ofString "emacs.syntax") 227) none (Value.ref 156) Value.none 0)) #[]) :: (nat_lit 158, Obj.mk (Value.type "tuple") none (Data.seq #[]) #[]) :: (nat_lit 160, Obj.mk (Value.type "tuple") none (Data.seq #[Value.str (Str.ofString "self") 403]) #[]) :: (nat_lit 161, Obj.mk (Value.type "tuple") none (Data.seq #[]) #[]) :: (nat_lit 163, Obj.mk (Value.type "code") none (Data.fields (List.toArray (Value.str (Str.ofString "copy") 400 :: Value.str (Str.ofString "SyntaxTable.copy") 401 :: Value.str (Str.ofString "/claim/cut.py") 402 :: Value.int 82 0 :: Value.int 1 0 :: Value.int 0 0 :: Value.int 0 0 :: Value.int 3 0 :: Value.ref 158 :: Value.bool true :: Value.int 181 0 :: Value.ref 159 :: Value.none :: Value.ref 160 :: Value.ref 161 :: Value.ref 162 :: Value.int 404 0 :: Value.int 82 0 :: Value.str (Str.ofString "/claim/cut.py") 405 :: []))) #[]) :: (nat_lit 164, Obj.mk (Value.type "function") none (Data.func (FuncData.mk (Str.ofString "copy") (Str.ofString "SyntaxTable.copy") A18m7 (FuncBody.stmts B18m7) S18m7 3 [] Value.none Value.none Value.none (Value.str (Str.ofString "emacs.syntax") 227) none (Value.ref 163) Value.none 0)) #[]) :: (nat_lit 165, Obj.mk (Value.type "tuple") none (Data.seq #[Value.str (Str.ofString "parent") 407, Value.str (Str.ofString "rows") 408]) #[]) :: (nat_lit 166, Obj.mk (Value.type "dict") none (Data.dict (List.toArray (DictEntry.mk (PyData.keyHash P (Str.ofString "__module__")) (Value.str (Str.ofString "__module__") 332) (Value.str (Str.ofString "emacs.syntax") 227) :: DictEntry.mk (PyData.keyHash P (Str.ofString "__firstlineno__")) (Value.str (Str.ofString "__firstlineno__") 336) (Value.int 51 335) :: DictEntry.mk (PyData.keyHash P (Str.ofString "__init__")) (Value.str (Str.ofString "__init__") 344) (Value.ref 115) :: DictEntry.mk (PyData.keyHash P (Str.ofString "modify")) (Value.str (Str.ofString "modify") 353) (Value.ref 122) :: DictEntry.mk (PyData.keyHash P (Str.ofString "modify_all")) (Value.str (Str.ofString "modify_all") 362) (Value.ref 129) :: DictEntry.mk (PyData.keyHash P (Str.ofString "modify_range")) (Value.str (Str.ofString "modify_range") 372) (Value.ref 136) :: DictEntry.mk (PyData.keyHash P (Str.ofString "own")) (Value.str (Str.ofString "own") 381) (Value.ref 143) :: DictEntry.mk (PyData.keyHash P (Str.ofString "at")) (Value.str (Str.ofString "at") 391) (Value.ref 150) :: DictEntry.mk (PyData.keyHash P (Str.ofString "kind_of")) (Value.str (Str.ofString "kind_of") 399) (Value.ref 157) :: DictEntry.mk (PyData.keyHash P (Str.ofString "copy")) (Value.str (Str.ofString "copy") 406) (Value.ref 164) :: DictEntry.mk (PyData.keyHash P (Str.ofString "__static_attributes__")) (Value.str (Str.ofString "__static_attributes__") 409) (Value.ref 165) :: DictEntry.mk (PyData.keyHash P (Str.ofString "__dict__")) (Value.str (Str.ofString "__dict__") 411) (Value.ref 168) :: DictEntry.mk (PyData.keyHash P (Str.ofString "__weakref__")) (Value.str (Str.ofString "__weakref__") 413) (Value.ref 169) :: DictEntry.mk (PyData.keyHash P (Str.ofString "__doc__")) (Value.str (Str.ofString "__doc__") 414) Value.none :: [])) 4) #[]) :: (nat_lit 167, Obj.mk (Value.type "type") none (Data.cls (ClassData.mk (Str.ofString "SyntaxTable") [Value.type "object"] [Value.ref 167, Value.type "object"] 166 (Str.ofString "SyntaxTable") true [] [] false none false)) #[none, none, some (Value.str (Str.ofString "SyntaxTable") 325), some (Value.str (Str.ofString "SyntaxTable") 333), some (Value.builtin "object.__new__"), some (Value.bool true)]) :: (nat_lit 168, Obj.mk (Value.type "getset_descriptor") none (Data.fields #[Value.str (Str.ofString "__dict__") 410, Value.ref 167, Value.builtin "function.__dict__", Value.builtin "function.__dict__#set"]) #[]) :: (nat_lit 169, Obj.mk (Value.type "getset_descriptor") none (Data.fields #[Value.str (Str.ofString "__weakref__") 412, Value.ref 167, Value.builtin "ExceptionGroup.__weakref__", Value.none]) #[]) :: (nat_lit 179, Obj.mk (Value.type "tuple") none (Data.seq #[]) #[]) :: (nat_lit 181, Obj.mk (Value.type "tuple") none (Data.seq #[Value.str (Str.ofString "self") 434, Value.str (Str.ofString "length") 435, Value.str (Str.ofString "style") 436, Value.str (Str.ofString "nests") 437, Value.str (Str.ofString "is_fence") 438]) #[]) :: (nat_lit 182, Obj.mk (Value.type "tuple") none (Data.seq #[]) #[]) :: (nat_lit 184, Obj.mk (Value.type "code") none (Data.fields (List.toArray (Value.str (Str.ofString "__init__") 431 :: Value.str (Str.ofString "Mark.__init__") 432 :: Value.str (Str.ofString "/claim/cut.py") 433 :: Value.int 87 0 :: Value.int 5 0 :: Value.int 0 0 :: Value.int 0 0 :: Value.int 3 0 :: Value.ref 179 :: Value.bool true :: Value.int 181 0 :: Value.ref 180 :: Value.none :: Value.ref 181 :: Value.ref 182 :: Value.ref 183 :: Value.int 439 0 :: Value.int 87 0 :: Value.str (Str.ofString "/claim/cut.py") 440 :: []))) #[]) :: (nat_lit 185, Obj.mk (Value.type "function") none (Data.func (FuncData.mk (Str.ofString "__init__") (Str.ofString "Mark.__init__") A20m0 (FuncBody.stmts B20m0) S20m0 3 [] Value.none Value.none Value.none (Value.str (Str.ofString "emacs.syntaxpairs") 417) none (Value.ref 184) Value.none 0)) #[]) :: (nat_lit 186, Obj.mk (Value.type "tuple") none (Data.seq #[Value.str (Str.ofString "is_fence") 442, Value.str (Str.ofString "length") 443, Value.str (Str.ofString "nests") 444, Value.str (Str.ofString "style") 445]) #[]) :: (nat_lit 187, Obj.mk (Value.type "dict") none (Data.dict #[DictEntry.mk (PyData.keyHash P (Str.ofString "__module__")) (Value.str (Str.ofString "__module__") 426) (Value.str (Str.ofString "emacs.syntaxpairs") 417), DictEntry.mk (PyData.keyHash P (Str.ofString "__firstlineno__")) (Value.str (Str.ofString "__firstlineno__") 430) (Value.int 85 429), DictEntry.mk (PyData.keyHash P (Str.ofString "__init__")) (Value.str (Str.ofString "__init__") 441) (Value.ref 185), DictEntry.mk (PyData.keyHash P (Str.ofString "__static_attributes__")) (Value.str (Str.ofString "__static_attributes__") 446) (Value.ref 186), DictEntry.mk (PyData.keyHash P (Str.ofString "__dict__")) (Value.str (Str.ofString "__dict__") 448) (Value.ref 189), DictEntry.mk (PyData.keyHash P (Str.ofString "__weakref__")) (Value.str (Str.ofString "__weakref__") 450) (Value.ref 190), DictEntry.mk (PyData.keyHash P (Str.ofString "__doc__")) (Value.str (Str.ofString "__doc__") 451) Value.none] 4) #[]) :: (nat_lit 188, Obj.mk (Value.type "type") none (Data.cls (ClassData.mk (Str.ofString "Mark") [Value.type "object"] [Value.ref 188, Value.type "object"] 187 (Str.ofString "Mark") true [] [] false none false)) #[none, none, some (Value.str (Str.ofString "Mark") 419), some (Value.str (Str.ofString "Mark") 427), some (Value.builtin "object.__new__"), some (Value.bool true)]) :: (nat_lit 189, Obj.mk (Value.type "getset_descriptor") none (Data.fields #[Value.str (Str.ofString "__dict__") 447, Value.ref 188, Value.builtin "function.__dict__", Value.builtin "function.__dict__#set"]) #[]) :: (nat_lit 190, Obj.mk (Value.type "getset_descriptor") none (Data.fields #[Value.str (Str.ofString "__weakref__") 449, Value.ref 188, Value.builtin "ExceptionGroup.__weakref__", Value.none]) #[]) :: (nat_lit 193, Obj.mk (Value.type "tuple") none (Data.seq #[]) #[]) :: (nat_lit 195, Obj.mk (Value.type "tuple") none (Data.seq #[Value.str (Str.ofString "view") 457, Value.str (Str.ofString "table") 458, Value.str (Str.ofString "place") 459, Value.str (Str.ofString "code") 460]) #[]) :: (nat_lit 196, Obj.mk (Value.type "tuple") none (Data.seq #[]) #[]) :: (nat_lit 198, Obj.mk (Value.type "code") none (Data.fields (List.toArray (Value.str (Str.ofString "syntax_at") 454 :: Value.str (Str.ofString "syntax_at") 455 :: Value.str (Str.ofString "/claim/cut.py") 456 :: Value.int 92 0 :: Value.int 3 0 :: Value.int 0 0 :: Value.int 0 0 :: Value.int 3 0 :: Value.ref 193 :: Value.bool true :: Value.int 181 0 :: Value.ref 194 :: Value.none :: Value.ref 195 :: Value.ref 196 :: Value.ref 197 :: Value.int 461 0 :: Value.int 92 0 :: Value.str (Str.ofString "/claim/cut.py") 462 :: []))) #[]) :: (nat_lit 199, Obj.mk (Value.type "function") none (Data.func (FuncData.mk (Str.ofString "syntax_at") (Str.ofString "syntax_at") A21 (FuncBody.stmts B21) S21 3 [] Value.none Value.none Value.none (Value.str (Str.ofString "emacs.syntaxpairs") 417) none (Value.ref 198) Value.none 0)) #[]) :: (nat_lit 200, Obj.mk (Value.type "tuple") none (Data.seq #[]) #[]) :: (nat_lit 202, Obj.mk (Value.type "tuple") none (Data.seq #[Value.str (Str.ofString "told") 467, Value.str (Str.ofString "other") 468, Value.str (Str.ofString "style") 469]) #[]) :: (nat_lit 203, Obj.mk (Value.type "tuple") none (Data.seq #[]) #[]) :: (nat_lit 205, Obj.mk (Value.type "code") none (Data.fields (List.toArray (Value.str (Str.ofString "pair_style") 464 :: Value.str (Str.ofString "pair_style") 465 :: Value.str (Str.ofString "/claim/cut.py") 466 :: Value.int 95 0 :: Value.int 2 0 :: Value.int 0 0 :: Value.int 0 0 :: Value.int 3 0 :: Value.ref 200 :: Value.bool true :: Value.int 181 0 :: Value.ref 201 :: Value.none :: Value.ref 202 :: Value.ref 203 :: Value.ref 204 :: Value.int 470 0 :: Value.int 95 0 :: Value.str (Str.ofString "/claim/cut.py") 471 :: []))) #[]) :: (nat_lit 206, Obj.mk (Value.type "function") none (Data.func (FuncData.mk (Str.ofString "pair_style") (Str.ofString "pair_style") A22 (FuncBody.stmts B22) S22 3 [] Value.none Value.none Value.none (Value.str (Str.ofString "emacs.syntaxpairs") 417) none (Value.ref 205) Value.none 0)) #[]) :: (nat_lit 207, Obj.mk (Value.type "tuple") none (Data.seq #[]) #[]) :: (nat_lit 209, Obj.mk (Value.type "tuple") none (Data.seq #[Value.str (Str.ofString "view") 476, Value.str (Str.ofString "table") 477, Value.str (Str.ofString "place") 478, Value.str (Str.ofString "one") 479, Value.str (Str.ofString "other") 480]) #[]) :: (nat_lit 210, Obj.mk (Value.type "tuple") none (Data.seq #[]) #[]) :: (nat_lit 212, Obj.mk (Value.type "code") none (Data.fields (List.toArray (Value.str (Str.ofString "begin_mark") 473 :: Value.str (Str.ofString "begin_mark") 474 :: Value.str (Str.ofString "/claim/cut.py") 475 :: Value.int 98 0 :: Value.int 3 0 :: Value.int 0 0 :: Value.int 0 0 :: Value.int 3 0 :: Value.ref 207 :: Value.bool true :: Value.int 181 0 :: Value.ref 208 :: Value.none :: Value.ref 209 :: Value.ref 210 :: Value.ref 211 :: Value.int 481 0 :: Value.int 98 0 :: Value.str (Str.ofString "/claim/cut.py") 482 :: []))) #[]) :: (nat_lit 213, Obj.mk (Value.type "function") none (Data.func (FuncData.mk (Str.ofString "begin_mark") (Str.ofString "begin_mark") A23 (FuncBody.stmts B23) S23 3 [] Value.none Value.none Value.none (Value.str (Str.ofString "emacs.syntaxpairs") 417) none (Value.ref 212) Value.none 0)) #[]) :: (nat_lit 214, Obj.mk (Value.type "tuple") none (Data.seq #[]) #[]) :: (nat_lit 216, Obj.mk (Value.type "tuple") none (Data.seq #[Value.str (Str.ofString "view") 487, Value.str (Str.ofString "table") 488, Value.str (Str.ofString "place") 489, Value.str (Str.ofString "one") 490, Value.str (Str.ofString "other") 491]) #[]) :: (nat_lit 217, Obj.mk (Value.type "tuple") none (Data.seq #[]) #[]) :: (nat_lit 219, Obj.mk (Value.type "code") none (Data.fields (List.toArray (Value.str (Str.ofString "end_mark") 484 :: Value.str (Str.ofString "end_mark") 485 :: Value.str (Str.ofString "/claim/cut.py") 486 :: Value.int 107 0 :: Value.int 3 0 :: Value.int 0 0 :: Value.int 0 0 :: Value.int 3 0 :: Value.ref 214 :: Value.bool true :: Value.int 181 0 :: Value.ref 215 :: Value.none :: Value.ref 216 :: Value.ref 217 :: Value.ref 218 :: Value.int 492 0 :: Value.int 107 0 :: Value.str (Str.ofString "/claim/cut.py") 493 :: []))) #[]) :: (nat_lit 220, Obj.mk (Value.type "function") none (Data.func (FuncData.mk (Str.ofString "end_mark") (Str.ofString "end_mark") A24 (FuncBody.stmts B24) S24 3 [] Value.none Value.none Value.none (Value.str (Str.ofString "emacs.syntaxpairs") 417) none (Value.ref 219) Value.none 0)) #[]) :: (nat_lit 221, Obj.mk (Value.type "tuple") none (Data.seq #[]) #[]) :: (nat_lit 223, Obj.mk (Value.type "tuple") none (Data.seq #[Value.str (Str.ofString "mark") 498, Value.str (Str.ofString "style") 499, Value.str (Str.ofString "nests") 500, Value.str (Str.ofString "is_fence") 501]) #[]) :: (nat_lit 224, Obj.mk (Value.type "tuple") none (Data.seq #[]) #[]) :: (nat_lit 226, Obj.mk (Value.type "code") none (Data.fields (List.toArray (Value.str (Str.ofString "fits") 495 :: Value.str (Str.ofString "fits") 496 :: Value.str (Str.ofString "/claim/cut.py") 497 :: Value.int 116 0 :: Value.int 4 0 :: Value.int 0 0 :: Value.int 0 0 :: Value.int 3 0 :: Value.ref 221 :: Value.bool true :: Value.int 181 0 :: Value.ref 222 :: Value.none :: Value.ref 223 :: Value.ref 224 :: Value.ref 225 :: Value.int 502 0 :: Value.int 116 0 :: Value.str (Str.ofString "/claim/cut.py") 503 :: []))) #[]) :: (nat_lit 227, Obj.mk (Value.type "function") none (Data.func (FuncData.mk (Str.ofString "fits") (Str.ofString "fits") A25 (FuncBody.stmts B25) S25 3 [] Value.none Value.none Value.none (Value.str (Str.ofString "emacs.syntaxpairs") 417) none (Value.ref 226) Value.none 0)) #[]) :: (nat_lit 228, Obj.mk (Value.type "tuple") none (Data.seq #[]) #[]) :: (nat_lit 230, Obj.mk (Value.type "tuple") none (Data.seq #[Value.str (Str.ofString "view") 508, Value.str (Str.ofString "table") 509, Value.str (Str.ofString "place") 510, Value.str (Str.ofString "count") 511, Value.str (Str.ofString "before") 512]) #[]) :: (nat_lit 231, Obj.mk (Value.type "tuple") none (Data.seq #[]) #[]) :: (nat_lit 233, Obj.mk (Value.type "code") none (Data.fields (List.toArray (Value.str (Str.ofString "is_quoted") 505 :: Value.str (Str.ofString "is_quoted") 506 :: Value.str (Str.ofString "/claim/cut.py") 507 :: Value.int 120 0 :: Value.int 3 0 :: Value.int 0 0 :: Value.int 0 0 :: Value.int 3 0 :: Value.ref 228 :: Value.bool true :: Value.int 181 0 :: Value.ref 229 :: Value.none :: Value.ref 230 :: Value.ref 231 :: Value.ref 232 :: Value.int 513 0 :: Value.int 120 0 :: Value.str (Str.ofString "/claim/cut.py") 514 :: []))) #[]) :: (nat_lit 234, Obj.mk (Value.type "function") none (Data.func (FuncData.mk (Str.ofString "is_quoted") (Str.ofString "is_quoted") A26 (FuncBody.stmts B26) S26 3 [] Value.none Value.none Value.none (Value.str (Str.ofString "emacs.syntaxpairs") 417) none (Value.ref 233) Value.none 0)) #[]) :: (nat_lit 242, Obj.mk (Value.type "tuple") none (Data.seq #[]) #[]) :: (nat_lit 243, Obj.mk (Value.type "tuple") none (Data.seq #[Value.ref 242, Value.int 0 530, Value.int 0 531, Value.none, Value.none, Value.none, Value.int 0 532, Value.str (Str.ofString "") 533, Value.bool false, Value.none, Value.bool false, Value.str (Str.ofString "") 534]) #[]) :: (nat_lit 244, Obj.mk (Value.type "tuple") none (Data.seq #[]) #[]) :: (nat_lit 246, Obj.mk (Value.type "tuple") none (Data.seq (List.toArray (Value.str (Str.ofString "self") 538 :: Value.str (Str.ofString "opens") 539 :: Value.str (Str.ofString "below") 540 :: Value.str (Str.ofString "least") 541 :: Value.str (Str.ofString "whole") 542 :: Value.str (Str.ofString "word") 543 :: Value.str (Str.ofString "string") 544 :: Value.str (Str.ofString "comment") 545 :: Value.str (Str.ofString "style") 546 :: Value.str (Str.ofString "nests") 547 :: Value.str (Str.ofString "start") 548 :: Value.str (Str.ofString "quoted") 549 :: Value.str (Str.ofString "half") 550 :: []))) #[]) :: (nat_lit 247, Obj.mk (Value.type "tuple") none (Data.seq #[]) #[]) :: (nat_lit 249, Obj.mk (Value.type "code") none (Data.fields (List.toArray (Value.str (Str.ofString "__init__") 535 :: Value.str (Str.ofString "ParseState.__init__") 536 :: Value.str (Str.ofString "/claim/cut.py") 537 :: Value.int 130 0 :: Value.int 13 0 :: Value.int 0 0 :: Value.int 0 0 :: Value.int 3 0 :: Value.ref 244 :: Value.bool true :: Value.int 181 0 :: Value.ref 245 :: Value.none :: Value.ref 246 :: Value.ref 247 :: Value.ref 248 :: Value.int 551 0 :: Value.int 130 0 :: Value.str (Str.ofString "/claim/cut.py") 552 :: []))) #[]) :: (nat_lit 250, Obj.mk (Value.type "function") none (Data.func (FuncData.mk (Str.ofString "__init__") (Str.ofString "ParseState.__init__") A28m0 (FuncBody.stmts B28m0) S28m0 3 [] (Value.ref 243) Value.none Value.none (Value.str (Str.ofString "emacs.parsestate") 516) none (Value.ref 249) Value.none 0)) #[]) :: (nat_lit 251, Obj.mk (Value.type "tuple") none (Data.seq #[]) #[]) :: (nat_lit 253, Obj.mk (Value.type "tuple") none (Data.seq #[Value.str (Str.ofString "self") 557]) #[]) :: (nat_lit 254, Obj.mk (Value.type "tuple") none (Data.seq #[]) #[]) :: (nat_lit 256, Obj.mk (Value.type "code") none (Data.fields (List.toArray (Value.str (Str.ofString "depth") 554 :: Value.str (Str.ofString "ParseState.depth") 555 :: Value.str (Str.ofString "/claim/cut.py") 556 :: Value.int 144 0 :: Value.int 1 0 :: Value.int 0 0 :: Value.int 0 0 :: Value.int 3 0 :: Value.ref 251 :: Value.bool true :: Value.int 181 0 :: Value.ref 252 :: Value.none :: Value.ref 253 :: Value.ref 254 :: Value.ref 255 :: Value.int 558 0 :: Value.int 144 0 :: Value.str (Str.ofString "/claim/cut.py") 559 :: []))) #[]) :: (nat_lit 257, Obj.mk (Value.type "function") none (Data.func (FuncData.mk (Str.ofString "depth") (Str.ofString "ParseState.depth") A28m1 (FuncBody.stmts B28m1) S28m1 3 [] Value.none Value.none Value.none (Value.str (Str.ofString "emacs.parsestate") 516) none (Value.ref 256) Value.none 0)) #[]) :: (nat_lit 258, Obj.mk (Value.type "tuple") none (Data.seq #[]) #[]) :: (nat_lit 260, Obj.mk (Value.type "tuple") none (Data.seq #[Value.str (Str.ofString "self") 564]) #[]) :: (nat_lit 261, Obj.mk (Value.type "tuple") none (Data.seq #[]) #[]) :: (nat_lit 263, Obj.mk (Value.type "code") none (Data.fields (List.toArray (Value.str (Str.ofString "innermost") 561 :: Value.str (Str.ofString "ParseState.innermost") 562 :: Value.str (Str.ofString "/claim/cut.py") 563 :: Value.int 147 0 :: Value.int 1 0 :: Value.int 0 0 :: Value.int 0 0 :: Value.int 3 0 :: Value.ref 258 :: Value.bool true :: Value.int 181 0 :: Value.ref 259 :: Value.none :: Value.ref 260 :: Value.ref 261 :: Value.ref 262 :: Value.int 565 0 :: Value.int 147 0 :: Value.str (Str.ofString "/claim/cut.py") 566 :: []))) #[]) :: (nat_lit 264, Obj.mk (Value.type "function") none (Data.func (FuncData.mk (Str.ofString "innermost") (Str.ofString "ParseState.innermost") A28m2 (FuncBody.stmts B28m2) S28m2 3 [] Value.none Value.none Value.none (Value.str (Str.ofString "emacs.parsestate") 516) none (Value.ref 263) Value.none 0)) #[]) :: (nat_lit 265, Obj.mk (Value.type "tuple") none (Data.seq #[]) #[]) :: (nat_lit 267, Obj.mk (Value.type "tuple") none (Data.seq #[Value.str (Str.ofString "self") 571]) #[]) :: (nat_lit 268, Obj.mk (Value.type "tuple") none (Data.seq #[]) #[]) :: (nat_lit 270, Obj.mk (Value.type "code") none (Data.fields (List.toArray (Value.str (Str.ofString "is_plain") 568 :: Value.str (Str.ofString "ParseState.is_plain") 569 :: Value.str (Str.ofString "/claim/cut.py") 570 :: Value.int 150 0 :: Value.int 1 0 :: Value.int 0 0 :: Value.int 0 0 :: Value.int 3 0 :: Value.ref 265 :: Value.bool true :: Value.int 181 0 :: Value.ref 266 :: Value.none :: Value.ref 267 :: Value.ref 268 :: Value.ref 269 :: Value.int 572 0 :: Value.int 150 0 :: Value.str (Str.ofString "/claim/cut.py") 573 :: []))) #[]) :: (nat_lit 271, Obj.mk (Value.type "function") none (Data.func (FuncData.mk (Str.ofString "is_plain") (Str.ofString "ParseState.is_plain") A28m3 (FuncBody.stmts B28m3) S28m3 3 [] Value.none Value.none Value.none (Value.str (Str.ofString "emacs.parsestate") 516) none (Value.ref 270) Value.none 0)) #[]) :: (nat_lit 272, Obj.mk (Value.type "tuple") none (Data.seq #[]) #[]) :: (nat_lit 274, Obj.mk (Value.type "tuple") none (Data.seq #[Value.str (Str.ofString "self") 578, Value.str (Str.ofString "inner") 579]) #[]) :: (nat_lit 275, Obj.mk (Value.type "tuple") none (Data.seq #[]) #[]) :: (nat_lit 277, Obj.mk (Value.type "code") none (Data.fields (List.toArray (Value.str (Str.ofString "items") 575 :: Value.str (Str.ofString "ParseState.items") 576 :: Value.str (Str.ofString "/claim/cut.py") 577 :: Value.int 153 0 :: Value.int 1 0 :: Value.int 0 0 :: Value.int 0 0 :: Value.int 3 0 :: Value.ref 272 :: Value.bool true :: Value.int 181 0 :: Value.ref 273 :: Value.none :: Value.ref 274 :: Value.ref 275 :: Value.ref 276 :: Value.int 580 0 :: Value.int 153 0 :: Value.str (Str.ofString "/claim/cut.py") 581 :: []))) #[]) :: (nat_lit 278, Obj.mk (Value.type "function") none (Data.func (FuncData.mk (Str.ofString "items") (Str.ofString "ParseState.items") A28m4 (FuncBody.stmts B28m4) S28m4 3 [] Value.none Value.none Value.none (Value.str (Str.ofString "emacs.parsestate") 516) none (Value.ref 277) Value.none 0)) #[]) :: (nat_lit 279, Obj.mk (Value.type "tuple") none (Data.seq #[Value.str (Str.ofString "below") 583, Value.str (Str.ofString "comment") 584, Value.str (Str.ofString "half") 585, Value.str (Str.ofString "least") 586, Value.str (Str.ofString "nests") 587, Value.str (Str.ofString "opens") 588, Value.str (Str.ofString "quoted") 589, Value.str (Str.ofString "start") 590, Value.str (Str.ofString "string") 591, Value.str (Str.ofString "style") 592, Value.str (Str.ofString "whole") 593, Value.str (Str.ofString "word") 594]) #[]) :: (nat_lit 280, Obj.mk (Value.type "dict") none (Data.dict #[DictEntry.mk (PyData.keyHash P (Str.ofString "__module__")) (Value.str (Str.ofString "__module__") 525) (Value.str (Str.ofString "emacs.parsestate") 516), DictEntry.mk (PyData.keyHash P (Str.ofString "__firstlineno__")) (Value.str (Str.ofString "__firstlineno__") 529) (Value.int 128 528), DictEntry.mk (PyData.keyHash P (Str.ofString "__init__")) (Value.str (Str.ofString "__init__") 553) (Value.ref 250), DictEntry.mk (PyData.keyHash P (Str.ofString "depth")) (Value.str (Str.ofString "depth") 560) (Value.ref 257), DictEntry.mk (PyData.keyHash P (Str.ofString "innermost")) (Value.str (Str.ofString "innermost") 567) (Value.ref 264), DictEntry.mk (PyData.keyHash P (Str.ofString "is_plain")) (Value.str (Str.ofString "is_plain") 574) (Value.ref 271), DictEntry.mk (PyData.keyHash P (Str.ofString "items")) (Value.str (Str.ofString "items") 582) (Value.ref 278), DictEntry.mk (PyData.keyHash P (Str.ofString "__static_attributes__")) (Value.str (Str.ofString "__static_attributes__") 595) (Value.ref 279), DictEntry.mk (PyData.keyHash P (Str.ofString "__dict__")) (Value.str (Str.ofString "__dict__") 597) (Value.ref 282), DictEntry.mk (PyData.keyHash P (Str.ofString "__weakref__")) (Value.str (Str.ofString "__weakref__") 599) (Value.ref 283), DictEntry.mk (PyData.keyHash P (Str.ofString "__doc__")) (Value.str (Str.ofString "__doc__") 600) Value.none] 4) #[]) :: (nat_lit 281, Obj.mk (Value.type "type") none (Data.cls (ClassData.mk (Str.ofString "ParseState") [Value.type "object"] [Value.ref 281, Value.type "object"] 280 (Str.ofString "ParseState") true [] [] false none false)) #[none, none, some (Value.str (Str.ofString "ParseState") 518), some (Value.str (Str.ofString "ParseState") 526), some (Value.builtin "object.__new__"), some (Value.bool true)]) :: (nat_lit 282, Obj.mk (Value.type "getset_descriptor") none (Data.fields #[Value.str (Str.ofString "__dict__") 596, Value.ref 281, Value.builtin "function.__dict__", Value.builtin "function.__dict__#set"]) #[]) :: (nat_lit 283, Obj.mk (Value.type "getset_descriptor") none (Data.fields #[Value.str (Str.ofString "__weakref__") 598, Value.ref 281, Value.builtin "ExceptionGroup.__weakref__", Value.none]) #[]) :: (nat_lit 286, Obj.mk (Value.type "tuple") none (Data.seq #[]) #[]) :: (nat_lit 288, Obj.mk (Value.type "tuple") none (Data.seq (List.toArray (Value.str (Str.ofString "items") 606 :: Value.str (Str.ofString "opens") 607 :: Value.str (Str.ofString "below") 608 :: Value.str (Str.ofString "least") 609 :: Value.str (Str.ofString "whole") 610 :: Value.str (Str.ofString "word") 611 :: Value.str (Str.ofString "string") 612 :: Value.str (Str.ofString "comment") 613 :: Value.str (Str.ofString "style") 614 :: Value.str (Str.ofString "nests") 615 :: Value.str (Str.ofString "start") 616 :: Value.str (Str.ofString "quoted") 617 :: Value.str (Str.ofString "half") 618 :: []))) #[]) :: (nat_lit 289, Obj.mk (Value.type "tuple") none (Data.seq #[]) #[]) :: (nat_lit 291, Obj.mk (Value.type "code") none (Data.fields (List.toArray (Value.str (Str.ofString "state_of") 603 :: Value.str (Str.ofString "state_of") 604 :: Value.str (Str.ofString "/claim/cut.py") 605 :: Value.int 156 0 :: Value.int 1 0 :: Value.int 0 0 :: Value.int 0 0 :: Value.int 3 0 :: Value.ref 286 :: Value.bool true :: Value.int 181 0 :: Value.ref 287 :: Value.none :: Value.ref 288 :: Value.ref 289 :: Value.ref 290 :: Value.int 619 0 :: Value.int 156 0 :: Value.str (Str.ofString "/claim/cut.py") 620 :: []))) #[]) :: (nat_lit 292, Obj.mk (Value.type "function") none (Data.func (FuncData.mk (Str.ofString "state_of") (Str.ofString "state_of") A29 (FuncBody.stmts B29) S29 3 [] Value.none Value.none Value.none (Value.str (Str.ofString "emacs.parsestate") 516) none (Value.ref 291) Value.none 0)) #[]) :: (nat_lit 293, Obj.mk (Value.type "tuple") none (Data.seq #[]) #[]) :: (nat_lit 295, Obj.mk (Value.type "tuple") none (Data.seq #[Value.str (Str.ofString "state") 625, Value.str (Str.ofString "comment") 626, Value.str (Str.ofString "string") 627]) #[]) :: (nat_lit 296, Obj.mk (Value.type "tuple") none (Data.seq #[]) #[]) :: (nat_lit 298, Obj.mk (Value.type "code") none (Data.fields (List.toArray (Value.str (Str.ofString "told_state") 622 :: Value.str (Str.ofString "told_state") 623 :: Value.str (Str.ofString "/claim/cut.py") 624 :: Value.int 159 0 :: Value.int 1 0 :: Value.int 0 0 :: Value.int 0 0 :: Value.int 3 0 :: Value.ref 293 :: Value.bool true :: Value.int 181 0 :: Value.ref 294 :: Value.none :: Value.ref 295 :: Value.ref 296 :: Value.ref 297 :: Value.int 628 0 :: Value.int 159 0 :: Value.str (Str.ofString "/claim/cut.py") 629 :: []))) #[]) :: (nat_lit 299, Obj.mk (Value.type "function") none (Data.func (FuncData.mk (Str.ofString "told_state") (Str.ofString "told_state") A30 (FuncBody.stmts B30) S30 3 [] Value.none Value.none Value.none (Value.str (Str.ofString "emacs.parsestate") 516) none (Value.ref 298) Value.none 0)) #[]) :: (nat_lit 307, Obj.mk (Value.type "tuple") none (Data.seq #[Value.int 1 645]) #[]) :: (nat_lit 308, Obj.mk (Value.type "tuple") none (Data.seq #[]) #[]) :: (nat_lit 310, Obj.mk (Value.type "tuple") none (Data.seq #[Value.str (Str.ofString "self") 649, Value.str (Str.ofString "codes") 650, Value.str (Str.ofString "place") 651]) #[]) :: (nat_lit 311, Obj.mk (Value.type "tuple") none (Data.seq #[]) #[]) :: (nat_lit 313, Obj.mk (Value.type "code") none (Data.fields (List.toArray (Value.str (Str.ofString "__init__") 646 :: Value.str (Str.ofString "TextRow.__init__") 647 :: Value.str (Str.ofString "/claim/cut.py") 648 :: Value.int 166 0 :: Value.int 3 0 :: Value.int 0 0 :: Value.int 0 0 :: Value.int 3 0 :: Value.ref 308 :: Value.bool true :: Value.int 181 0 :: Value.ref 309 :: Value.none :: Value.ref 310 :: Value.ref 311 :: Value.ref 312 :: Value.int 652 0 :: Value.int 166 0 :: Value.str (Str.ofString "/claim/cut.py") 653 :: []))) #[]) :: (nat_lit 314, Obj.mk (Value.type "function") none (Data.func (FuncData.mk (Str.ofString "__init__") (Str.ofString "TextRow.__init__") A32m0 (FuncBody.stmts B32m0) S32m0 3 [] (Value.ref 307) Value.none Value.none (Value.str (Str.ofString "emacs.textrow") 631) none (Value.ref 313) Value.none 0)) #[]) :: (nat_lit 315, Obj.mk (Value.type "tuple") none (Data.seq #[]) #[]) :: (nat_lit 317, Obj.mk (Value.type "tuple") none (Data.seq #[Value.str (Str.ofString "self") 658]) #[]) :: (nat_lit 318, Obj.mk (Value.type "tuple") none (Data.seq #[]) #[]) :: (nat_lit 320, Obj.mk (Value.type "code") none (Data.fields (List.toArray (Value.str (Str.ofString "begin") 655 :: Value.str (Str.ofString "TextRow.begin") 656 :: Value.str (Str.ofString "/claim/cut.py") 657 :: Value.int 170 0 :: Value.int 1 0 :: Value.int 0 0 :: Value.int 0 0 :: Value.int 3 0 :: Value.ref 315 :: Value.bool true :: Value.int 181 0 :: Value.ref 316 :: Value.none :: Value.ref 317 :: Value.ref 318 :: Value.ref 319 :: Value.int 659 0 :: Value.int 170 0 :: Value.str (Str.ofString "/claim/cut.py") 660 :: []))) #[]) :: (nat_lit 321, Obj.mk (Value.type "function") none (Data.func (FuncData.mk (Str.ofString "begin") (Str.ofString "TextRow.begin") A32m1 (FuncBody.stmts B32m1) S32m1 3 [] Value.none Value.none Value.none (Value.str (Str.ofString "emacs.textrow") 631) none (Value.ref 320) Value.none 0)) #[]) :: (nat_lit 322, Obj.mk (Value.type "tuple") none (Data.seq #[]) #[]) :: (nat_lit 324, Obj.mk (Value.type "tuple") none (Data.seq #[Value.str (Str.ofString "self") 665]) #[]) :: (nat_lit 325, Obj.mk (Value.type "tuple") none (Data.seq #[]) #[]) :: (nat_lit 327, Obj.mk (Value.type "code") none (Data.fields (List.toArray (Value.str (Str.ofString "end") 662 :: Value.str (Str.ofString "TextRow.end") 663 :: Value.str (Str.ofString "/claim/cut.py") 664 :: Value.int 173 0 :: Value.int 1 0 :: Value.int 0 0 :: Value.int 0 0 :: Value.int 3 0 :: Value.ref 322 :: Value.bool true :: Value.int 181 0 :: Value.ref 323 :: Value.none :: Value.ref 324 :: Value.ref 325 :: Value.ref 326 :: Value.int 666 0 :: Value.int 173 0 :: Value.str (Str.ofString "/claim/cut.py") 667 :: []))) #[]) :: (nat_lit 328, Obj.mk (Value.type "function") none (Data.func (FuncData.mk (Str.ofString "end") (Str.ofString "TextRow.end") A32m2 (FuncBody.stmts B32m2) S32m2 3 [] Value.none Value.none Value.none (Value.str (Str.ofString "emacs.textrow") 631) none (Value.ref 327) Value.none 0)) #[]) :: (nat_lit 329, Obj.mk (Value.type "tuple") none (Data.seq #[]) #[]) :: (nat_lit 331, Obj.mk (Value.type "tuple") none (Data.seq #[Value.str (Str.ofString "self") 672, Value.str (Str.ofString "place") 673]) #[]) :: (nat_lit 332, Obj.mk (Value.type "tuple") none (Data.seq #[]) #[]) :: (nat_lit 334, Obj.mk (Value.type "code") none (Data.fields (List.toArray (Value.str (Str.ofString "code_at") 669 :: Value.str (Str.ofString "TextRow.code_at") 670 :: Value.str (Str.ofString "/claim/cut.py") 671 :: Value.int 176 0 :: Value.int 2 0 :: Value.int 0 0 :: Value.int 0 0 :: Value.int 3 0 :: Value.ref 329 :: Value.bool true :: Value.int 181 0 :: Value.ref 330 :: Value.none :: Value.ref 331 :: Value.ref 332 :: Value.ref 333 :: Value.int 674 0 :: Value.int 176 0 :: Value.str (Str.ofString "/claim/cut.py") 675 :: []))) #[]) :: (nat_lit 335, Obj.mk (Value.type "function") none (Data.func (FuncData.mk (Str.ofString "code_at") (Str.ofString "TextRow.code_at") A32m3 (FuncBody.stmts B32m3) S32m3 3 [] Value.none Value.none Value.none (Value.str (Str.ofString "emacs.textrow") 631) none (Value.ref 334) Value.none 0)) #[]) :: (nat_lit 336, Obj.mk (Value.type "tuple") none (Data.seq #[Value.str (Str.ofString "codes") 677, Value.str (Str.ofString "place") 678]) #[]) :: (nat_lit 337, Obj.mk (Value.type "dict") none (Data.dict #[DictEntry.mk (PyData.keyHash P (Str.ofString "__module__")) (Value.str (Str.ofString "__module__") 640) (Value.str (Str.ofString "emacs.textrow") 631), DictEntry.mk (PyData.keyHash P (Str.ofString "__firstlineno__")) (Value.str (Str.ofString "__firstlineno__") 644) (Value.int 164 643), DictEntry.mk (PyData.keyHash P (Str.ofString "__init__")) (Value.str (Str.ofString "__init__") 654) (Value.ref 314), DictEntry.mk (PyData.keyHash P (Str.ofString "begin")) (Value.str (Str.ofString "begin") 661) (Value.ref 321), DictEntry.mk (PyData.keyHash P (Str.ofString "end")) (Value.str (Str.ofString "end") 668) (Value.ref 328), DictEntry.mk (PyData.keyHash P (Str.ofString "code_at")) (Value.str (Str.ofString "code_at") 676) (Value.ref 335), DictEntry.mk (PyData.keyHash P (Str.ofString "__static_attributes__")) (Value.str (Str.ofString "__static_attributes__") 679) (Value.ref 336), DictEntry.mk (PyData.keyHash P (Str.ofString "__dict__")) (Value.str (Str.ofString "__dict__") 681) (Value.ref 339), DictEntry.mk (PyData.keyHash P (Str.ofString "__weakref__")) (Value.str (Str.ofString "__weakref__") 683) (Value.ref 340), DictEntry.mk (PyData.keyHash P (Str.ofString "__doc__")) (Value.str (Str.ofString "__doc__") 684) Value.none] 4) #[]) :: (nat_lit 338, Obj.mk (Value.type "type") none (Data.cls (ClassData.mk (Str.ofString "TextRow") [Value.type "object"] [Value.ref 338, Value.type "object"] 337 (Str.ofString "TextRow") true [] [] false none false)) #[none, none, some (Value.str (Str.ofString "TextRow") 633), some (Value.str (Str.ofString "TextRow") 641), some (Value.builtin "object.__new__"), some (Value.bool true)]) :: (nat_lit 339, Obj.mk (Value.type "getset_descriptor") none (Data.fields #[Value.str (Str.ofString "__dict__") 680, Value.ref 338, Value.builtin "function.__dict__", Value.builtin "function.__dict__#set"]) #[]) :: (nat_lit 340, Obj.mk (Value.type "getset_descriptor") none (Data.fields #[Value.str (Str.ofString "__weakref__") 682, Value.ref 338, Value.builtin "ExceptionGroup.__weakref__", Value.none]) #[]) :: (nat_lit 343, Obj.mk (Value.type "tuple") none (Data.seq #[]) #[]) :: (nat_lit 345, Obj.mk (Value.type "tuple") none (Data.seq #[Value.str (Str.ofString "deck") 692, Value.str (Str.ofString "many") 693]) #[]) :: (nat_lit 346, Obj.mk (Value.type "tuple") none (Data.seq #[]) #[]) :: (nat_lit 348, Obj.mk (Value.type "code") none (Data.fields (List.toArray (Value.str (Str.ofString "_law_draw") 689 :: Value.str (Str.ofString "_law_draw") 690 :: Value.str (Str.ofString "/claim/cut.py") 691 :: Value.int 181 0 :: Value.int 2 0 :: Value.int 0 0 :: Value.int 0 0 :: Value.int 3 0 :: Value.ref 343 :: Value.bool true :: Value.int 181 0 :: Value.ref 344 :: Value.none :: Value.ref 345 :: Value.ref 346 :: Value.ref 347 :: Value.int 694 0 :: Value.int 181 0 :: Value.str (Str.ofString "/claim/cut.py") 695 :: []))) #[]) :: (nat_lit 349, Obj.mk (Value.type "function") none (Data.func (FuncData.mk (Str.ofString "_law_draw") (Str.ofString "_law_draw") A34 (FuncBody.stmts B34) S34 3 [] Value.none Value.none Value.none (Value.str (Str.ofString "law_ok0055_01") 687) none (Value.ref 348) Value.none 0)) #[]) :: (nat_lit 350, Obj.mk (Value.type "tuple") none (Data.seq #[]) #[]) :: (nat_lit 353, Obj.mk (Value.type "code") none (Data.fields (List.toArray (Value.str (Str.ofString "_law_sign") 697 :: Value.str (Str.ofString "_law_sign") 698 :: Value.str (Str.ofString "/claim/cut.py") 699 :: Value.int 186 0 :: Value.int 1 0 :: Value.int 0 0 :: Value.int 0 0 :: Value.int 3 0 :: Value.ref 350 :: Value.bool true :: Value.int 181 0 :: Value.ref 351 :: Value.none :: Value.none :: Value.none :: Value.ref 352 :: Value.int 700 0 :: Value.int 186 0 :: Value.str (Str.ofString "/claim/cut.py") 701 :: []))) #[]) :: (nat_lit 354, Obj.mk (Value.type "function") none (Data.func (FuncData.mk (Str.ofString "_law_sign") (Str.ofString "_law_sign") A35 (FuncBody.stmts B35) S35 3 [] Value.none Value.none Value.none (Value.str (Str.ofString "law_ok0055_01") 687) none (Value.ref 353) Value.none 0)) #[]) :: (nat_lit 355, Obj.mk (Value.type "tuple") none (Data.seq #[]) #[]) :: (nat_lit 357, Obj.mk (Value.type "tuple") none (Data.seq #[Value.str (Str.ofString "one") 706, Value.str (Str.ofString "other") 707, Value.str (Str.ofString "two_flags") 708, Value.str (Str.ofString "kind") 709, Value.str (Str.ofString "chief") 710]) #[]) :: (nat_lit 358, Obj.mk (Value.type "tuple") none (Data.seq #[]) #[]) :: (nat_lit 360, Obj.mk (Value.type "code") none (Data.fields (List.toArray (Value.str (Str.ofString "_law_mark") 703 :: Value.str (Str.ofString "_law_mark") 704 :: Value.str (Str.ofString "/claim/cut.py") 705 :: Value.int 189 0 :: Value.int 4 0 :: Value.int 0 0 :: Value.int 0 0 :: Value.int 3 0 :: Value.ref 355 :: Value.bool true :: Value.int 181 0 :: Value.ref 356 :: Value.none :: Value.ref 357 :: Value.ref 358 :: Value.ref 359 :: Value.int 711 0 :: Value.int 189 0 :: Value.str (Str.ofString "/claim/cut.py") 712 :: []))) #[]) :: (nat_lit 361, Obj.mk (Value.type "function") none (Data.func (FuncData.mk (Str.ofString "_law_mark") (Str.ofString "_law_mark") A36 (FuncBody.stmts B36) S36 3 [] Value.none Value.none Value.none (Value.str (Str.ofString "law_ok0055_01") 687) none (Value.ref 360) Value.none 0)) #[]) :: (nat_lit 362, Obj.mk (Value.type "tuple") none (Data.seq #[]) #[]) :: (nat_lit 364, Obj.mk (Value.type "tuple") none (Data.seq #[Value.str (Str.ofString "mark") 717]) #[]) :: (nat_lit 365, Obj.mk (Value.type "tuple") none (Data.seq #[]) #[]) :: (nat_lit 367, Obj.mk (Value.type "code") none (Data.fields (List.toArray (Value.str (Str.ofString "_law_shown") 714 :: Value.str (Str.ofString "_law_shown") 715 :: Value.str (Str.ofString "/claim/cut.py") 716 :: Value.int 198 0 :: Value.int 1 0 :: Value.int 0 0 :: Value.int 0 0 :: Value.int 3 0 :: Value.ref 362 :: Value.bool true :: Value.int 181 0 :: Value.ref 363 :: Value.none :: Value.ref 364 :: Value.ref 365 :: Value.ref 366 :: Value.int 718 0 :: Value.int 198 0 :: Value.str (Str.ofString "/claim/cut.py") 719 :: []))) #[]) :: (nat_lit 368, Obj.mk (Value.type "function") none (Data.func (FuncData.mk (Str.ofString "_law_shown") (Str.ofString "_law_shown") A37 (FuncBody.stmts B37) S37 3 [] Value.none Value.none Value.none (Value.str (Str.ofString "law_ok0055_01") 687) none (Value.ref 367) Value.none 0)) #[]) :: (nat_lit 369, Obj.mk (Value.type "tuple") none (Data.seq #[]) #[]) :: (nat_lit 371, Obj.mk (Value.type "tuple") none (Data.seq #[Value.str (Str.ofString "mark") 724, Value.str (Str.ofString "style") 725, Value.str (Str.ofString "nests") 726, Value.str (Str.ofString "is_fence") 727]) #[]) :: (nat_lit 372, Obj.mk (Value.type "tuple") none (Data.seq #[]) #[]) :: (nat_lit 374, Obj.mk (Value.type "code") none (Data.fields (List.toArray (Value.str (Str.ofString "_law_is_fit") 721 :: Value.str (Str.ofString "_law_is_fit") 722 :: Value.str (Str.ofString "/claim/cut.py") 723 :: Value.int 200 0 :: Value.int 4 0 :: Value.int 0 0 :: Value.int 0 0 :: Value.int 3 0 :: Value.ref 369 :: Value.bool true :: Value.int 181 0 :: Value.ref 370 :: Value.none :: Value.ref 371 :: Value.ref 372 :: Value.ref 373 :: Value.int 728 0 :: Value.int 200 0 :: Value.str (Str.ofString "/claim/cut.py") 729 :: []))) #[]) :: (nat_lit 375, Obj.mk (Value.type "function") none (Data.func (FuncData.mk (Str.ofString "_law_is_fit") (Str.ofString "_law_is_fit") A38 (FuncBody.stmts B38) S38 3 [] Value.none Value.none Value.none (Value.str (Str.ofString "law_ok0055_01") 687) none (Value.ref 374) Value.none 0)) #[]) :: (nat_lit 376, Obj.mk (Value.type "tuple") none (Data.seq #[]) #[]) :: (nat_lit 379, Obj.mk (Value.type "code") none (Data.fields (List.toArray (Value.str (Str.ofString "_law_state") 731 :: Value.str (Str.ofString "_law_state") 732 :: Value.str (Str.ofString "/claim/cut.py") 733 :: Value.int 204 0 :: Value.int 1 0 :: Value.int 0 0 :: Value.int 0 0 :: Value.int 3 0 :: Value.ref 376 :: Value.bool true :: Value.int 181 0 :: Value.ref 377 :: Value.none :: Value.none :: Value.none :: Value.ref 378 :: Value.int 734 0 :: Value.int 204 0 :: Value.str (Str.ofString "/claim/cut.py") 735 :: []))) #[]) :: (nat_lit 380, Obj.mk (Value.type "function") none (Data.func (FuncData.mk (Str.ofString "_law_state") (Str.ofString "_law_state") A39 (FuncBody.stmts B39) S39 3 [] Value.none Value.none Value.none (Value.str (Str.ofString "law_ok0055_01") 687) none (Value.ref 379) Value.none 0)) #[]) :: (nat_lit 381, Obj.mk (Value.type "tuple") none (Data.seq #[]) #[]) :: (nat_lit 383, Obj.mk (Value.type "tuple") none (Data.seq (List.toArray (Value.str (Str.ofString "items") 740 :: Value.str (Str.ofString "one") 741 :: Value.str (Str.ofString "opens") 742 :: Value.str (Str.ofString "below") 743 :: Value.str (Str.ofString "least") 744 :: Value.str (Str.ofString "last_one") 745 :: Value.str (Str.ofString "word") 746 :: Value.str (Str.ofString "string") 747 :: Value.str (Str.ofString "deep") 748 :: Value.str (Str.ofString "style") 749 :: Value.str (Str.ofString "nests") 750 :: Value.str (Str.ofString "start") 751 :: Value.str (Str.ofString "is_behind") 752 :: Value.str (Str.ofString "half") 753 :: Value.str (Str.ofString "depth") 754 :: Value.str (Str.ofString "inner") 755 :: Value.str (Str.ofString "due") 756 :: []))) #[]) :: (nat_lit 384, Obj.mk (Value.type "tuple") none (Data.seq #[]) #[]) :: (nat_lit 386, Obj.mk (Value.type "code") none (Data.fields (List.toArray (Value.str (Str.ofString "_law_is_state_right") 737 :: Value.str (Str.ofString "_law_is_state_right") 738 :: Value.str (Str.ofString "/claim/cut.py") 739 :: Value.int 210 0 :: Value.int 1 0 :: Value.int 0 0 :: Value.int 0 0 :: Value.int 3 0 :: Value.ref 381 :: Value.bool true :: Value.int 181 0 :: Value.ref 382 :: Value.none :: Value.ref 383 :: Value.ref 384 :: Value.ref 385 :: Value.int 757 0 :: Value.int 210 0 :: Value.str (Str.ofString "/claim/cut.py") 758 :: []))) #[]) :: (nat_lit 387, Obj.mk (Value.type "function") none (Data.func (FuncData.mk (Str.ofString "_law_is_state_right") (Str.ofString "_law_is_state_right") A40 (FuncBody.stmts B40) S40 3 [] Value.none Value.none Value.none (Value.str (Str.ofString "law_ok0055_01") 687) none (Value.ref 386) Value.none 0)) #[]) :: (nat_lit 388, Obj.mk (Value.type "tuple") none (Data.seq #[]) #[]) :: (nat_lit 391, Obj.mk (Value.type "code") none (Data.fields (List.toArray (Value.str (Str.ofString "law") 760 :: Value.str (Str.ofString "law") 761 :: Value.str (Str.ofString "/claim/cut.py") 762 :: Value.int 221 0 :: Value.int 1 0 :: Value.int 0 0 :: Value.int 0 0 :: Value.int 3 0 :: Value.ref 388 :: Value.bool true :: Value.int 181 0 :: Value.ref 389 :: Value.none :: Value.none :: Value.none :: Value.ref 390 :: Value.int 763 0 :: Value.int 221 0 :: Value.str (Str.ofString "/claim/cut.py") 764 :: []))) #[]) :: (nat_lit 392, Obj.mk (Value.type "function") none (Data.func (FuncData.mk (Str.ofString "law") (Str.ofString "law") A41 (FuncBody.stmts B41) S41 3 [] Value.none Value.none Value.none (Value.str (Str.ofString "law_ok0055_01") 687) none (Value.ref 391) Value.none 0)) #[]) :: [])
end Mine
end
section
set_option maxRecDepth 100000
namespace Mine

noncomputable def Ctr (w : World) (mean : ExcName → Option Value) (mg mb : Str → Option Value) (lv : Nat) (f : Addr) (vs : List Value) (news : List (Addr × Obj)) (Post : Value → List (Addr × Obj) → Prop) : Prop :=
  ∀ (dp un : Nat) (gd : Option (List Code)) (cn : Str) (cs : Scope) (a : Addr) (ccd : Value) (cl : List (Str × Addr)) (outer : List Env) (A₀ : Around) (base h₀ : Heap) (L : Addr) (m : Str → Option Value) (s : Shared) (Q E : Value → Shared → Prop),
    Below A₀ base outer h₀ → Fr h₀ L s.heap m → (K0 w.params).In h₀ → News h₀ L s.heap news →
    Top view0 (looseW view0 [Str.ofString "ParseState"]) mean mg mb h₀ → cs.kind = .function → dp + lv < recursionLimit → un + 8 * lv < cLine →
    (∀ r news' h' tk', Fr h₀ L h' m → News h₀ L h' news' → Post r news' → Q r { s with heap := h', toks := tk' }) →
    wpAny (model Challenge.rw_ok0055_01.row.prog w) (ktrTop dp un gd cn cs L a ccd cl outer) (call (.ref f) vs) Q E s

theorem Ctr.mono {w : World} {mean : ExcName → Option Value} {mg mb : Str → Option Value} {lv : Nat} {f : Addr} {vs : List Value} {news : List (Addr × Obj)} {Post Post' : Value → List (Addr × Obj) → Prop}
    (C : Ctr w mean mg mb lv f vs news Post) (h : ∀ r n, Post r n → Post' r n) : Ctr w mean mg mb lv f vs news Post' :=
  fun dp un gd cn cs a ccd cl outer A₀ base h₀ L m s Q E B F X N T hk hd hu hret =>
    C dp un gd cn cs a ccd cl outer A₀ base h₀ L m s Q E B F X N T hk hd hu fun r n h' tk' F' N' p => hret r n h' tk' F' N' (h r n p)

theorem news_sub {h₀ h : Heap} {L : Addr} {news news' : List (Addr × Obj)} (N : News h₀ L h news') (hs : ∀ p ∈ news, p ∈ news') : News h₀ L h news := fun p hp => N p (hs p hp)

theorem Ctr.use {w : World} {mean : ExcName → Option Value} {mg mb : Str → Option Value} {lv : Nat} {f : Addr} {vs : List Value} {news : List (Addr × Obj)} {Post : Value → List (Addr × Obj) → Prop}
    {dp un : Nat} {gd : Option (List Code)} {cn : Str} {cs : Scope} {a : Addr} {ccd : Value} {cl : List (Str × Addr)} {outer : List Env} {A₀ : Around} {base h₀ : Heap} {L : Addr} {m : Str → Option Value} {s : Shared} {Q E : Value → Shared → Prop}
    (C : Ctr w mean mg mb lv f vs news Post) (B : Below A₀ base outer h₀) (F : Fr h₀ L s.heap m) (X : (K0 w.params).In h₀) (N : News h₀ L s.heap news)
    (T : Top view0 (looseW view0 [Str.ofString "ParseState"]) mean mg mb h₀) (hk : cs.kind = .function) (hd : dp + lv < recursionLimit) (hu : un + 8 * lv < cLine)
    (hret : ∀ r news' h' tk', Fr h₀ L h' m → News h₀ L h' news' → Post r news' → Q r { s with heap := h', toks := tk' }) :
    wpAny (model Challenge.rw_ok0055_01.row.prog w) (ktrTop dp un gd cn cs L a ccd cl outer) (call (.ref f) vs) Q E s :=
  C dp un gd cn cs a ccd cl outer A₀ base h₀ L m s Q E B F X N T hk hd hu hret
theorem an0 {a b : Prop} (h : a ∧ b) : a := h.1
theorem an1 {p a b : Prop} (h : p ∧ a ∧ b) : a := h.2.1
theorem an2 {p q a b : Prop} (h : p ∧ q ∧ a ∧ b) : a := h.2.2.1
theorem an3 {p q r a b : Prop} (h : p ∧ q ∧ r ∧ a ∧ b) : a := h.2.2.2.1
theorem an4 {p q r s a b : Prop} (h : p ∧ q ∧ r ∧ s ∧ a ∧ b) : a := h.2.2.2.2.1
theorem an5 {p q r s t a b : Prop} (h : p ∧ q ∧ r ∧ s ∧ t ∧ a ∧ b) : a := h.2.2.2.2.2.1
theorem an6 {p q r s t u a b : Prop} (h : p ∧ q ∧ r ∧ s ∧ t ∧ u ∧ a ∧ b) : a := h.2.2.2.2.2.2.1
theorem an7 {p q r s t u v a b : Prop} (h : p ∧ q ∧ r ∧ s ∧ t ∧ u ∧ v ∧ a ∧ b) : a := h.2.2.2.2.2.2.2.1
theorem an8 {p q r s t u v w a b : Prop} (h : p ∧ q ∧ r ∧ s ∧ t ∧ u ∧ v ∧ w ∧ a ∧ b) : a := h.2.2.2.2.2.2.2.2.1
theorem an9 {p q r s t u v w x a b : Prop} (h : p ∧ q ∧ r ∧ s ∧ t ∧ u ∧ v ∧ w ∧ x ∧ a ∧ b) : a := h.2.2.2.2.2.2.2.2.2.1
theorem neL {a b : Nat} (h : b < a) : a ≠ b := Nat.ne_of_gt h
theorem neG {a b : Nat} (h : a < b) : a ≠ b := Nat.ne_of_lt h
theorem neS {a b : Nat} (h : b ≠ a) : a ≠ b := Ne.symm h
theorem room0 {d k R : Nat} (h : d + k < R) : d < R := Nat.lt_of_le_of_lt (Nat.le_add_right _ _) h
theorem room2 {d a j k R : Nat} (h : d + k < R) (hk : (a + j).ble k = true) : d + a + j < R :=
  Nat.lt_of_le_of_lt (by rw [Nat.add_assoc]; exact Nat.add_le_add_left (Nat.le_of_ble_eq_true hk) d) h
end Mine
end
section
set_option maxRecDepth 100000
namespace Mine

theorem Ctr.useR {w : World} {mean : ExcName → Option Value} {mg mb : Str → Option Value} {lv : Nat} {f : Addr} {vs : List Value} {news : List (Addr × Obj)} {P : Value → Prop}
    {dp un : Nat} {gd : Option (List Code)} {cn : Str} {cs : Scope} {a : Addr} {ccd : Value} {cl : List (Str × Addr)} {outer : List Env} {A₀ : Around} {base h₀ : Heap} {L : Addr} {m : Str → Option Value} {s : Shared} {Q E : Value → Shared → Prop}
    (C : Ctr w mean mg mb lv f vs news (fun r n => P r ∧ n = news)) (B : Below A₀ base outer h₀) (F : Fr h₀ L s.heap m) (X : (K0 w.params).In h₀) (N : News h₀ L s.heap news)
    (T : Top view0 (looseW view0 [Str.ofString "ParseState"]) mean mg mb h₀) (hk : cs.kind = .function) (hd : dp + lv < recursionLimit) (hu : un + 8 * lv < cLine)
    (hret : ∀ r h' tk', Fr h₀ L h' m → News h₀ L h' news → P r → Q r { s with heap := h', toks := tk' }) :
    wpAny (model Challenge.rw_ok0055_01.row.prog w) (ktrTop dp un gd cn cs L a ccd cl outer) (call (.ref f) vs) Q E s :=
  C dp un gd cn cs a ccd cl outer A₀ base h₀ L m s Q E B F X N T hk hd hu fun r n h' tk' F' N' p => hret r h' tk' F' (p.2 ▸ N') p.1
end Mine
end
section
set_option maxRecDepth 100000
namespace Mine
noncomputable def alpha : List Nat := [49, 50, 51, 52, 98, 99, 110]
noncomputable def subs : Nat → List (List Nat)
  | 0 => [[]]
  | i + 1 => subs i ++ (subs i).map (· ++ [alpha.getD i 0])
noncomputable def kindsL : List Nat := [60, 62, 33, 92, 47, 119, 46]
noncomputable def sgn (c : Nat) : Str := ⟨#[c]⟩
noncomputable def txt (l : List Nat) : Str := ⟨l.toArray⟩
theorem alpha_at : ∀ i, i < 7 → (Str.ofString "1234bcn").cps[i]? = some (alpha.getD i 0) := by decide +kernel
theorem subs_skip {i : Nat} {l : List Nat} (h : l ∈ subs i) : l ∈ subs (i + 1) := List.mem_append.mpr (.inl h)
theorem subs_take {i : Nat} {l : List Nat} (h : l ∈ subs i) : l ++ [alpha.getD i 0] ∈ subs (i + 1) := List.mem_append.mpr (.inr (List.mem_map.mpr ⟨l, h, rfl⟩))
theorem subs_len : ∀ l ∈ subs 7, l.length ≤ 7 := by decide +kernel
theorem subs_join : ∀ l ∈ subs 7, Txt.join (Str.ofString "") (l.map sgn) = txt l := by decide +kernel
theorem kind_at : ∀ d : Int, 0 ≤ d → d < 7 → ∃ c ∈ kindsL, Txt.item (Str.ofString "<>!\\/w.") d = sgn c := by
  intro d h0 h1
  have : d = 0 ∨ d = 1 ∨ d = 2 ∨ d = 3 ∨ d = 4 ∨ d = 5 ∨ d = 6 := by omega
  rcases this with rfl | rfl | rfl | rfl | rfl | rfl | rfl
  · exact ⟨60, by decide, by decide +kernel⟩
  · exact ⟨62, by decide, by decide +kernel⟩
  · exact ⟨33, by decide, by decide +kernel⟩
  · exact ⟨92, by decide, by decide +kernel⟩
  · exact ⟨47, by decide, by decide +kernel⟩
  · exact ⟨119, by decide, by decide +kernel⟩
  · exact ⟨46, by decide, by decide +kernel⟩
theorem strsAre_snoc {vs : List Value} {ys : List Str} (h : StrsAre vs ys) (y : Str) (t : Tok) : StrsAre (vs ++ [.str y t]) (ys ++ [y]) := by
  induction h with
  | nil => exact .cons y t .nil
  | cons z u _ ih => exact .cons z u ih
theorem sum_len_sgn (l : List Nat) : ((l.map sgn).map (·.length)).sum = l.length := by
  induction l with
  | nil => rfl
  | cons a r ih => simp only [List.map_cons, List.sum_cons, ih, List.length_cons]; show 1 + _ = _; omega
noncomputable abbrev tupOf (its : Array Value) (n : Nat) : Obj := { cls := .type "tuple", data := .seq its n }
noncomputable def flagsL : List Nat := [49, 50, 51, 52, 98, 99, 110, 112]
theorem flags_at : ∀ i, i < 8 → (Str.ofString "1234bcnp").cps[i]? = some (flagsL.getD i 0) := by decide +kernel
theorem subs_sorted : ∀ l ∈ subs 7, flagsL.filter (fun c => l.contains c) = l := by decide +kernel
theorem flags_take : ∀ i, i < 8 → flagsL.take (i + 1) = flagsL.take i ++ [flagsL.getD i 0] := by decide +kernel
theorem occ_txt (l : List Nat) (c : Nat) : (Builtin.Str.occurrences (txt l) ⟨#[c]⟩ 0 (txt l).length 1).isEmpty = !(l.contains c) := by
  have h := StrLaws.found_one (txt l) c
  have e : decide (c ∈ (txt l).cps.toList) = l.contains c := by
    show decide (c ∈ l) = _
    by_cases hc : c ∈ l
    · rw [decide_eq_true hc]; exact (List.contains_iff_mem.mpr hc).symm
    · rw [decide_eq_false hc]
      cases hq : l.contains c with
      | false => rfl
      | true => exact absurd (List.contains_iff_mem.mp hq) hc
  rw [e] at h
  rw [← h, Bool.not_not]
theorem kept_yes {vs : List Value} {l : List Nat} {i : Nat} (hi : i < 8) {u : Tok} (h : StrsAre vs (((flagsL.take i).filter (fun c => l.contains c)).map sgn)) (k : l.contains (flagsL.getD i 0) = true) :
    StrsAre (vs ++ [.str ⟨#[flagsL.getD i 0]⟩ u]) (((flagsL.take (i + 1)).filter (fun c => l.contains c)).map sgn) := by
  rw [flags_take i hi, List.filter_append, List.map_append]
  have e : List.filter (fun c => l.contains c) [flagsL.getD i 0] = [flagsL.getD i 0] := by rw [List.filter_cons_of_pos (by exact k)]; rfl
  rw [e]
  exact strsAre_snoc h _ _
theorem kept_no {vs : List Value} {l : List Nat} {i : Nat} (hi : i < 8) (h : StrsAre vs (((flagsL.take i).filter (fun c => l.contains c)).map sgn)) (k : l.contains (flagsL.getD i 0) = false) :
    StrsAre vs (((flagsL.take (i + 1)).filter (fun c => l.contains c)).map sgn) := by
  rw [flags_take i hi, List.filter_append, List.map_append]
  have e : List.filter (fun c => l.contains c) [flagsL.getD i 0] = [] := by rw [List.filter_cons_of_neg (by rw [k]; exact Bool.false_ne_true)]; rfl
  rw [e]
  simpa using h
noncomputable def KINDS : Str := Str.ofString " w_.()'\"\\/$<>@!|"
theorem kinds_has : ∀ c ∈ kindsL, (Builtin.Str.occurrences KINDS (sgn c) 0 KINDS.length 1).isEmpty = false := by decide +kernel
theorem read_facts0 : ∀ c ∈ kindsL, ∀ l ∈ subs 7, (txt (c :: 32 :: l) == Str.ofString "") = false ∧ (Txt.item (txt (c :: 32 :: l)) 0 == Str.ofString "-") = false ∧ (Txt.item (txt (c :: 32 :: l)) 1 == Str.ofString " ") = true ∧
    Txt.item (txt (c :: 32 :: l)) 0 = sgn c ∧ Txt.slice (txt (c :: 32 :: l)) (some 2) none = txt l ∧ (txt (c :: 32 :: l)).length = 2 + l.length := by decide +kernel
theorem read_facts : ∀ c ∈ kindsL, ∀ l ∈ subs 7, (txt (c :: 32 :: l) == Str.ofString "") = false ∧ (Txt.item (txt (c :: 32 :: l)) 0 == Str.ofString "-") = false ∧ (Txt.item (txt (c :: 32 :: l)) 1 == Str.ofString " ") = true ∧
    Txt.item (txt (c :: 32 :: l)) 0 = sgn c ∧ Txt.slice (txt (c :: 32 :: l)) (some 2) none = txt l ∧ (txt (c :: 32 :: l)).length = 2 + l.length ∧
    (Builtin.Str.occurrences KINDS (Txt.item (txt (c :: 32 :: l)) 0) 0 KINDS.length 1).isEmpty = false := fun c hc l hl =>
  have ⟨h1, h2, h3, h4, h5, h6⟩ := read_facts0 c hc l hl
  ⟨h1, h2, h3, h4, h5, h6, by rw [h4]; exact kinds_has c hc⟩
theorem flags_in : ∀ l ∈ subs 7, ∀ c ∈ l, flagsL.contains c = true := by decide +kernel
theorem flags_txt : Str.ofString "1234bcnp" = txt flagsL := by decide +kernel
noncomputable abbrev synD (w : World) (c : Nat) (l : List Nat) (u1 u2 u3 t1 t3 : Tok) : Obj :=
  dictOf [⟨PyData.keyHash w.params (Str.ofString "kind"), .str (Str.ofString "kind") u1, .str (sgn c) t1⟩, ⟨PyData.keyHash w.params (Str.ofString "match"), .str (Str.ofString "match") u2, .none⟩, ⟨PyData.keyHash w.params (Str.ofString "flags"), .str (Str.ofString "flags") u3, .str (txt l) t3⟩] 3

structure SgE where
  a : Addr
  c : Nat
  l : List Nat
  t1 : Tok
  t3 : Tok
  e : Nat
noncomputable def SgE.ent (r : SgE) : Addr × Obj := (r.a, tupOf #[.str (sgn r.c) r.t1, .str (txt r.l) r.t3] r.e)
noncomputable def SgE.Ok (r : SgE) : Prop := r.c ∈ kindsL ∧ r.l ∈ subs 7
theorem allLt_mono {a b : Addr} (h : a ≤ b) : ∀ {l : List (Addr × Obj)}, AllLt a l → AllLt b l
  | [], _ => trivial
  | _ :: _, k => ⟨Nat.lt_of_lt_of_le k.1 h, allLt_mono h k.2⟩

structure SyE where
  s : Addr
  d : Addr
  u1 : Tok
  u2 : Tok
  u3 : Tok
  t1 : Tok
  t3 : Tok
noncomputable abbrev SyE.obj (y : SyE) (w : World) (r : SgE) : Obj := synD w r.c r.l y.u1 y.u2 y.u3 y.t1 y.t3
end Mine
end
section
set_option maxRecDepth 100000
namespace Mine
noncomputable def stmtBody : Stmt → List Stmt
  | .FunctionDef (body := b) .. => b
  | _ => []
noncomputable def stmtScope : Stmt → Option Scope
  | .FunctionDef (scope := s) .. => some s
  | _ => none
noncomputable def lawDef : Stmt := Challenge.pw_ok0055_01.main.body.getLastD (.Pass ⟨0, 0, 0, 0⟩)
noncomputable def lawBody : List Stmt := stmtBody lawDef
noncomputable def lawScope : Scope := (stmtScope lawDef).getD { kind := .function, names := [], isGenerator := false, isCoroutine := false, more := [] }

noncomputable abbrev envLaw (L fa : Addr) (cd : Value) : Env := envOfC (Str.ofString "law") lawScope L fa cd
theorem lawScope_kind : lawScope.kind = .function := by rfl
noncomputable abbrev tabD (w : World) (rw : Addr) (u1 u2 : Tok) : Obj :=
  dictOf [⟨PyData.keyHash w.params (Str.ofString "parent"), .str (Str.ofString "parent") u1, .none⟩, ⟨PyData.keyHash w.params (Str.ofString "rows"), .str (Str.ofString "rows") u2, .ref rw⟩] 2
end Mine
end
section
open PySem PySem.W PyProof.Rows PySem.Calls PySem.Spec
set_option maxRecDepth 100000
namespace Mine
open PyProof.Rows.LCg PyProof.Rows.LCt

section
variable {prog : Program} {w : World} {A : Around} {E : Value → Shared → Prop} {s : Shared} {h₀ : Heap} {L : Addr} {m : Str → Option Value} {env : Env}
noncomputable def SrcST (prog : Program) (w : World) (A : Around) (h₀ : Heap) (L : Addr) (m : Str → Option Value) (env : Env) (ct elt : Expr) (x : Str) (scope : Scope) (cl : List (Str × Addr)) (Q : Value → Shared → Prop) (xv : Value) (s₁ : Shared) : Prop :=
  ∃ tx t news, xv = .str tx t ∧ A.handled = none ∧ Fr h₀ L s₁.heap m ∧ News h₀ L s₁.heap news ∧ tx.cps.size ≤ sizeLine ∧
    ∀ g, CompRestT prog w A h₀ L m env ct elt x scope cl { s₁ with heap := g } (fun _ => True) (SignAt tx) (FinE h₀ L m { s₁ with heap := g } Q) tx.cps.size 0 [] news

theorem striter_st {I : Addr} {cls : String} {tx : Str} {t : Tok} : ∀ i (h h' : Heap) (o : Obj) (nw : List (Addr × Obj)), h.IsStrIter I cls tx t i → h.get? I = some o → h'.get? I = some o → (∀ b o, h₀.get? b = some o → h'.get? b = some o) → News h₀ L h' nw → (fun _ : List (Addr × Obj) => True) nw → h'.IsStrIter I cls tx t i :=
  fun i h h' o nw st e e' _ _ _ => by
    obtain ⟨o', q, r⟩ := st
    rw [e] at q
    cases q
    exact ⟨o, e', r⟩

theorem ListComp_TS {ct elt iter : Expr} {x : Str} {px : Pos} {scope : Scope} {cl : List (Str × Addr)} {pos : Pos} {Q : Value → Shared → Prop} (F₀ : Fr h₀ L s.heap m)
    (hclos : closureFor scope env = pure cl) (hcell : ∀ y ∈ scope.names, y.2 ≠ .cell) (hkind : scope.kind = .function)
    (hnames : ∀ y ∈ scope.names, y.2 = .local → scope.names.lookup y.1 = some .local) (hx : scope.names.lookup x = some .local)
    (h : wpAny (model prog w) A (eval iter env) (SrcST prog w A h₀ L m env ct elt x scope cl Q) E s)
    (hs : ∀ x, foldedSetIterable iter env x = pure x := by intro _; rfl) :
    wpAny (model prog w) A (eval (.ListComp elt [⟨.Name x px, iter, [ct], 0⟩] scope pos) env) Q E s := by
  rw [eval_ListComp]
  refine wpAny_comprehension_free (use := none) rfl hs hclos hkind hnames (wpAny_mono h (fun xv s₁ h₁ => ?_) fun _ _ e => e)
  obtain ⟨tx, t, news, rfl, hh, F, N, hsz, R⟩ := h₁
  have up : ∀ (o' : Obj) b o, s₁.heap.get? b = some o → (s₁.heap.push o').get? b = some o := fun o' b o e => Heap.get?_push_of_some _ e
  have go : ∀ (cls : String) (o' : Obj) (_ : ∀ h : Heap, True), o'.isFreed = false → Walks prog w A s₁.heap.objs.size [s₁.heap.objs.size] [s₁.heap.objs.size] tx.cps.size (SignAt tx) (fun i h => h.IsStrIter s₁.heap.objs.size cls tx t i) →
      (s₁.heap.push o').IsStrIter s₁.heap.objs.size cls tx t 0 →
      wpAny (model prog w) A (newList []) (fun acc s₃ => wpAny (model prog w) A (newFunctionEnv scope env.globals cl [] env.qual none .none (some env)) (fun cenv s₄ =>
        codeAny (model prog w) A (.compStart (.ListComp elt [⟨.Name x px, iter, [ct], 0⟩] scope pos) 0 (.ref s₁.heap.objs.size) acc { cenv with scope := relabel scope env })
          (compPost (model prog w) A E none Q acc cenv.locals) s₄) E s₃) E { s₁ with heap := s₁.heap.push o' } := by
    intro cls o' _ hfr W hst
    refine block_T W hsz (fun i h st => by obtain ⟨o, e, _⟩ := st; exact ⟨o, e⟩) striter_st hcell hkind hx hst (fun b hb => ?_)
      (F.keeps (up o')) (N.grown (up o')) (Nat.ne_of_lt F.ns.lt) (next_is_new F) (fun p hp => Nat.ne_of_lt (Heap.lt_size (N p hp).1)) trivial (R _) ?_
    · rw [List.mem_singleton.mp hb]
      show s₁.heap.objs.size < (s₁.heap.push _).objs.size
      rw [Heap.size_push]; exact Nat.lt_succ_self _
    · intro D C h tk m' ys news' F' N' o1 hn hC₀ hD₀ hCL hDL hCD offC fin
      refine ⟨m', hn, fun h'' hs'' => fin D h'' tk (F'.change hs'' hCL hC₀) (fun p hp => ?_) o1⟩
      refine ⟨hs''.extBut _ _ ?_ (N' p hp).1, (N' p hp).2⟩
      rcases List.mem_cons.mp hp with rfl | hp
      · exact Ne.symm hCD
      · exact offC p hp
  cases ha : tx.cps.all (· < 128)
  · exact wpAny_pyIter_wide ha (go "str_iterator" { cls := .type "str_iterator", data := .fields #[.str tx t, .int 0 0] } (fun _ => trivial) rfl (Walks.strWide hh _ tx t) ⟨_, Heap.get?_push_size _ rfl, rfl, rfl⟩)
  · exact wpAny_pyIter_ascii ha (go "str_ascii_iterator" { cls := .type "str_ascii_iterator", data := .fields #[.str tx t, .int 0 0] } (fun _ => trivial) rfl (Walks.strAscii hh _ tx t) ⟨_, Heap.get?_push_size _ rfl, rfl, rfl⟩)

noncomputable def SrcSU (prog : Program) (w : World) (A : Around) (h₀ : Heap) (L : Addr) (m : Str → Option Value) (env : Env) (elt : Expr) (x : Str) (scope : Scope) (cl : List (Str × Addr)) (Q : Value → Shared → Prop) (xv : Value) (s₁ : Shared) : Prop :=
  ∃ tx t news, xv = .str tx t ∧ A.handled = none ∧ Fr h₀ L s₁.heap m ∧ News h₀ L s₁.heap news ∧ tx.cps.size ≤ sizeLine ∧
    ∀ g, CompRest prog w A h₀ L m env elt x scope cl { s₁ with heap := g } (fun _ => True) (SignAt tx) (FinE h₀ L m { s₁ with heap := g } Q) tx.cps.size 0 [] news

theorem ListComp_SU {elt iter : Expr} {x : Str} {px : Pos} {scope : Scope} {cl : List (Str × Addr)} {pos : Pos} {Q : Value → Shared → Prop} (F₀ : Fr h₀ L s.heap m)
    (hclos : closureFor scope env = pure cl) (hcell : ∀ y ∈ scope.names, y.2 ≠ .cell) (hkind : scope.kind = .function)
    (hnames : ∀ y ∈ scope.names, y.2 = .local → scope.names.lookup y.1 = some .local) (hx : scope.names.lookup x = some .local)
    (h : wpAny (model prog w) A (eval iter env) (SrcSU prog w A h₀ L m env elt x scope cl Q) E s)
    (hs : ∀ x, foldedSetIterable iter env x = pure x := by intro _; rfl) :
    wpAny (model prog w) A (eval (.ListComp elt [⟨.Name x px, iter, [], 0⟩] scope pos) env) Q E s := by
  rw [eval_ListComp]
  refine wpAny_comprehension_free (use := none) rfl hs hclos hkind hnames (wpAny_mono h (fun xv s₁ h₁ => ?_) fun _ _ e => e)
  obtain ⟨tx, t, news, rfl, hh, F, N, hsz, R⟩ := h₁
  have up : ∀ (o' : Obj) b o, s₁.heap.get? b = some o → (s₁.heap.push o').get? b = some o := fun o' b o e => Heap.get?_push_of_some _ e
  have go : ∀ (cls : String) (o' : Obj) (_ : ∀ h : Heap, True), o'.isFreed = false → Walks prog w A s₁.heap.objs.size [s₁.heap.objs.size] [s₁.heap.objs.size] tx.cps.size (SignAt tx) (fun i h => h.IsStrIter s₁.heap.objs.size cls tx t i) →
      (s₁.heap.push o').IsStrIter s₁.heap.objs.size cls tx t 0 →
      wpAny (model prog w) A (newList []) (fun acc s₃ => wpAny (model prog w) A (newFunctionEnv scope env.globals cl [] env.qual none .none (some env)) (fun cenv s₄ =>
        codeAny (model prog w) A (.compStart (.ListComp elt [⟨.Name x px, iter, [], 0⟩] scope pos) 0 (.ref s₁.heap.objs.size) acc { cenv with scope := relabel scope env })
          (compPost (model prog w) A E none Q acc cenv.locals) s₄) E s₃) E { s₁ with heap := s₁.heap.push o' } := by
    intro cls o' _ hfr W hst
    refine block_U W hsz (fun i h st => by obtain ⟨o, e, _⟩ := st; exact ⟨o, e⟩) striter_st hcell hkind hx hst (fun b hb => ?_)
      (F.keeps (up o')) (N.grown (up o')) (Nat.ne_of_lt F.ns.lt) (next_is_new F) (fun p hp => Nat.ne_of_lt (Heap.lt_size (N p hp).1)) trivial (R _) ?_
    · rw [List.mem_singleton.mp hb]
      show s₁.heap.objs.size < (s₁.heap.push _).objs.size
      rw [Heap.size_push]; exact Nat.lt_succ_self _
    · intro D C h tk m' ys news' F' N' o1 hn hC₀ hD₀ hCL hDL hCD offC fin
      refine ⟨m', hn, fun h'' hs'' => fin D h'' tk (F'.change hs'' hCL hC₀) (fun p hp => ?_) o1⟩
      refine ⟨hs''.extBut _ _ ?_ (N' p hp).1, (N' p hp).2⟩
      rcases List.mem_cons.mp hp with rfl | hp
      · exact Ne.symm hCD
      · exact offC p hp
  cases ha : tx.cps.all (· < 128)
  · exact wpAny_pyIter_wide ha (go "str_iterator" { cls := .type "str_iterator", data := .fields #[.str tx t, .int 0 0] } (fun _ => trivial) rfl (Walks.strWide hh _ tx t) ⟨_, Heap.get?_push_size _ rfl, rfl, rfl⟩)
  · exact wpAny_pyIter_ascii ha (go "str_ascii_iterator" { cls := .type "str_ascii_iterator", data := .fields #[.str tx t, .int 0 0] } (fun _ => trivial) rfl (Walks.strAscii hh _ tx t) ⟨_, Heap.get?_push_size _ rfl, rfl, rfl⟩)

theorem CompEnd.mono {s₁ : Shared} {I C D : Addr} {oI oC oD : Obj} {S : List (Addr × Obj) → Prop} {rest rest' : Value → List (Addr × Obj) → Prop} {y : Value} {s₂ : Shared}
    (h : CompEnd h₀ L m s₁ I oI C oC D oD S rest y s₂) (k : ∀ y n, rest y n → rest' y n) : CompEnd h₀ L m s₁ I oI C oC D oD S rest' y s₂ := by
  obtain ⟨h', tk, news', e, F, N, o, hS, r⟩ := h
  exact ⟨h', tk, news', e, F, N, o, hS, k _ _ r⟩

theorem CompRestT.induct {ct elt : Expr} {x : Str} {scope : Scope} {cl : List (Str × Addr)} {S : List (Addr × Obj) → Prop} {P : Nat → Value → Prop} {Fin : List Value → List (Addr × Obj) → Prop} {n : Nat}
    (Inv : Nat → List Value → List (Addr × Obj) → Prop) (hfin : ∀ ys news, Inv n ys news → Fin ys news)
    (hstep : ∀ i ys news, i < n → Inv i ys news → ∀ v I oI C oC D m₂ h tk (E' : Value → Shared → Prop), P i v → NsObj oC m₂ → m₂ x = some v → Fr h₀ L h m → News h₀ L h ((I, oI) :: (C, oC) :: (D, lst ys) :: news) → Off3 I C D news → ((@Ne Nat I C) ∧ (@Ne Nat I D) ∧ (@Ne Nat C D)) →
      wpAny (model prog w) A (isTrue ct (compEnvC scope cl C env) (eval ct (compEnvC scope cl C env))) (fun ok s' => if ok = true then
        wpAny (model prog w) A (eval elt (compEnvC scope cl C env)) (CompEnd h₀ L m { s with heap := h, toks := tk } I oI C oC D (lst ys) S (fun y news' => Inv (i + 1) (ys ++ [y]) news')) E' s'
        else CompEnd h₀ L m { s with heap := h, toks := tk } I oI C oC D (lst ys) S (fun _ news' => Inv (i + 1) ys news') Value.none s') E' { s with heap := h, toks := tk }) :
    ∀ k i ys news, k + i = n → Inv i ys news → CompRestT prog w A h₀ L m env ct elt x scope cl s S P Fin k i ys news := by
  intro k
  induction k with
  | zero => intro i ys news e hI; obtain rfl : i = n := by omega
            exact CompRestT.zero (hfin _ _ hI)
  | succ k ih =>
    intro i ys news e hI
    refine CompRestT.succ fun v I oI C oC D m₂ h tk E' hP hC hx F N off ne => ?_
    refine wpAny_mono (hstep i ys news (by omega) hI v I oI C oC D m₂ h tk E' hP hC hx F N off ne) (fun ok s' hq => ?_) fun _ _ e => e
    cases ok with
    | true =>
      simp only [if_true] at hq ⊢
      exact wpAny_mono hq (fun y s'' hc => CompEnd.mono hc fun y n hi => ih (i + 1) _ n (by omega) hi) fun _ _ e => e
    | false =>
      simp only [Bool.false_eq_true, if_false] at hq ⊢
      exact CompEnd.mono hq fun y n hi => ih (i + 1) _ n (by omega) hi

theorem CompRest.induct {elt : Expr} {x : Str} {scope : Scope} {cl : List (Str × Addr)} {S : List (Addr × Obj) → Prop} {P : Nat → Value → Prop} {Fin : List Value → List (Addr × Obj) → Prop} {n : Nat}
    (Inv : Nat → List Value → List (Addr × Obj) → Prop) (hfin : ∀ ys news, Inv n ys news → Fin ys news)
    (hstep : ∀ i ys news, i < n → Inv i ys news → ∀ v I oI C oC D m₂ h tk (E' : Value → Shared → Prop), P i v → NsObj oC m₂ → m₂ x = some v → Fr h₀ L h m → News h₀ L h ((I, oI) :: (C, oC) :: (D, lst ys) :: news) → Off3 I C D news → ((@Ne Nat I C) ∧ (@Ne Nat I D) ∧ (@Ne Nat C D)) →
      wpAny (model prog w) A (eval elt (compEnvC scope cl C env)) (CompEnd h₀ L m { s with heap := h, toks := tk } I oI C oC D (lst ys) S (fun y news' => Inv (i + 1) (ys ++ [y]) news')) E' { s with heap := h, toks := tk }) :
    ∀ k i ys news, k + i = n → Inv i ys news → CompRest prog w A h₀ L m env elt x scope cl s S P Fin k i ys news := by
  intro k
  induction k with
  | zero => intro i ys news e hI; obtain rfl : i = n := by omega
            exact CompRest.zero (hfin _ _ hI)
  | succ k ih =>
    intro i ys news e hI
    refine CompRest.succ fun v I oI C oC D m₂ h tk E' hP hC hx F N off ne => ?_
    exact wpAny_mono (hstep i ys news (by omega) hI v I oI C oC D m₂ h tk E' hP hC hx F N off ne) (fun y s'' hc => CompEnd.mono hc fun y n hi => ih (i + 1) _ n (by omega) hi) fun _ _ e => e
end
end Mine
end
section
set_option maxRecDepth 100000
namespace Mine
noncomputable def styl (b c : Bool) : Str := (if b then Str.ofString "b" else Str.ofString "") ++ (if c then Str.ofString "c" else Str.ofString "")
theorem sgn1 : Str.ofString "1" = sgn 49 := by decide +kernel
theorem sgn2 : Str.ofString "2" = sgn 50 := by decide +kernel
theorem sgn3 : Str.ofString "3" = sgn 51 := by decide +kernel
theorem sgn4 : Str.ofString "4" = sgn 52 := by decide +kernel
theorem sgnb : Str.ofString "b" = sgn 98 := by decide +kernel
theorem sgnc : Str.ofString "c" = sgn 99 := by decide +kernel
theorem sgnn : Str.ofString "n" = sgn 110 := by decide +kernel
end Mine
end
namespace Mine
local macro_rules | `(tactic| k_room) => `(tactic| ktr_room)
local macro_rules | `(tactic| k_mem) => `(tactic| ((show (_ : Addr × Obj) ∈ (_ : List (Addr × Obj))); ktr_member))
local macro_rules | `(tactic| k_all) => `(tactic| first | assumption | exact fun p hp => Nat.ne_of_lt (ktn_ltOf (by assumption) p hp))
local macro_rules | `(tactic| kbo_bools) => `(tactic| first | assumption | exact an0 (by assumption) | exact an1 (by assumption) | exact an2 (by assumption) | exact an3 (by assumption) | exact an4 (by assumption) | exact an5 (by assumption) | exact an6 (by assumption) | exact an7 (by assumption) | exact an8 (by assumption) | exact an9 (by assumption))
local macro_rules | `(tactic| omega) => `(tactic| with_reducible first | decide | exact room0 (by assumption) | exact room2 (by assumption) (by decide) | (refine neN ?_; first | exact neL (by kbo_bools) | kbo_bools | exact neS (by kbo_bools) | exact neG (by kbo_bools)))
section
local macro_rules | `(tactic| ktr_rel) => `(tactic| (dsimp only; first | assumption | (refine (if_neg (by decide)).trans ?_; ktr_rel) | (refine (if_pos rfl).trans ?_; exact rfl)))
local macro_rules | `(tactic| walk_at "eval Name") => `(tactic| (k_here; k_dflt (refine' nameX_L ?k1 ?k2 ?_; (case k1 => k_asm); (case k2 => first | assumption | ktr_rel); k_whole)))
section
-- Draw
set_option maxRecDepth 100000 in
set_option maxHeartbeats 8000000 in
theorem draw_ok (w : World) (mean : ExcName → Option Value) (mg mb : Str → Option Value) (dk xs : Addr) (vs : List Value) (ns : List Int) (e e2 : Nat) (n k : Int) (t tk : Tok) (rest : List (Addr × Obj))
    (hI : IntsAre vs ns) (hlen : ns.length ≤ 60) (hxd : xs ≠ dk) (hne : ∀ p ∈ rest, p.1 ≠ dk) (hn0 : 0 ≤ n) (hn1 : n < 1000) (hk0 : 0 < k) (hk1 : k < 100) :
    Ctr w mean mg mb 1 349 [.ref dk, .int k tk] ((dk, listOf #[.ref xs, .int n t] e)   :: (xs, listOf vs.toArray e2) :: rest)
      (fun r news' => ∃ d t1 t2, r = .int d t1 ∧ 0 ≤ d ∧ d < k ∧ news' = (dk, listOf #[.ref xs, .int (n + 1) t2] e)   :: (xs, listOf vs.toArray e2) :: rest) := by
  w_on
  unfold Ctr
  k_fill
  intro dp un gd cn cs a ccd cl outer A₀ base h₀ L m s Q E B F X N T hk hd hu hret
  refine wpAny_call ?_
  k_dflt ktr_enter
  w_strict (k_steps; all_goals exact hret _ _ _ _ (by k_asm) (by k_asm) ⟨_, _, _, rfl, Int.fmod_nonneg_of_pos _ hk0, Int.fmod_lt_of_pos _ hk0, rfl⟩)

theorem draw_use {w : World} {mean : ExcName → Option Value} {mg mb : Str → Option Value} {dk xs : Addr} {vs : List Value} {ns : List Int} {e e2 : Nat} {n k : Int} {t tk : Tok} {news : List (Addr × Obj)} {news' : Tok → List (Addr × Obj)}
    {dp un : Nat} {gd : Option (List Code)} {cn : Str} {cs : Scope} {a : Addr} {ccd : Value} {cl : List (Str × Addr)} {outer : List Env} {A₀ : Around} {base h₀ : Heap} {L : Addr} {m : Str → Option Value} {s : Shared} {Q E : Value → Shared → Prop}
    (B : Below A₀ base outer h₀) (F : Fr h₀ L s.heap m) (X : (K0 w.params).In h₀) (N : News h₀ L s.heap news)
    (T : Top view0 (looseW view0 [Str.ofString "ParseState"]) mean mg mb h₀) (hk : cs.kind = .function)
    (U : ∀ t2, Upd dk (listOf #[.ref xs, .int n t] e) (listOf #[.ref xs, .int (n + 1) t2] e) news (news' t2))
    (hx : (xs, listOf vs.toArray e2) ∈ news) (hxd : xs ≠ dk) (hI : IntsAre vs ns) (hlen : ns.length ≤ 60) (hn0 : 0 ≤ n) (hn1 : n < 1000) (hk0 : 0 < k) (hk1 : k < 100) (hd : dp + 1 < recursionLimit) (hu : un + 8 * 1 < cLine)
    (hret : ∀ d t1 t2 h' tk', Fr h₀ L h' m → News h₀ L h' (news' t2) → 0 ≤ d → d < k → Q (.int d t1) { s with heap := h', toks := tk' }) :
    wpAny (model Challenge.rw_ok0055_01.row.prog w) (ktrTop dp un gd cn cs L a ccd cl outer) (call (.ref 349) [.ref dk, .int k tk]) Q E s := by
  obtain ⟨pre, post, h1, _, h2, h3⟩ := (U 0).split
  have hne : ∀ p ∈ pre ++ post, p.1 ≠ dk := fun p hp => (List.mem_append.mp hp).elim (h2 p) (h3 p)
  have hin : ∀ p ∈ news, p.1 ≠ dk → p ∈ pre ++ post := fun p hp hn => by
    rw [h1] at hp
    rcases List.mem_append.mp hp with hp | hp
    · exact List.mem_append.mpr (.inl hp)
    · rcases List.mem_cons.mp hp with rfl | hp
      · exact absurd rfl hn
      · exact List.mem_append.mpr (.inr hp)
  refine draw_ok w mean mg mb dk xs vs ns e e2 n k t tk (pre ++ post) hI hlen hxd hne hn0 hn1 hk0 hk1 dp un gd cn cs a ccd cl outer A₀ base h₀ L m s Q E B F X ?_ T hk hd hu ?_
  · refine news_sub N fun p hp => ?_
    rcases List.mem_cons.mp hp with rfl | hp
    · rw [h1]; exact List.mem_append.mpr (.inr (.head _))
    · rcases List.mem_cons.mp hp with rfl | hp
      · exact hx
      · rw [h1]
        exact (List.mem_append.mp hp).elim (fun h => List.mem_append.mpr (.inl h)) fun h => List.mem_append.mpr (.inr (.tail _ h))
  · rintro r n1 h' tk' F' N' ⟨d, t1, t2, rfl, hd0, hd1, rfl⟩
    refine hret d t1 t2 h' tk' F' (news_sub N' fun p hp => ?_) hd0 hd1
    obtain ⟨pre2, post2, g1, g1', g2, g3⟩ := (U t2).split
    rw [g1'] at hp
    rcases List.mem_append.mp hp with hp | hp
    · exact .tail _ (.tail _ (hin p (by rw [g1]; exact List.mem_append.mpr (.inl hp)) (g2 p hp)))
    · rcases List.mem_cons.mp hp with rfl | hp
      · exact .head _
      · exact .tail _ (.tail _ (hin p (by rw [g1]; exact List.mem_append.mpr (.inr (.tail _ hp))) (g3 p hp)))
end
section
-- Syn
local macro_rules | `(tactic| walk_at "pad") => `(tactic| fail)
theorem str_eq {x y : Str} {t : Tok} (h : x = y) : ∃ t', Value.str x t = Value.str y t' := ⟨t, h ▸ rfl⟩
theorem esc_eq (c : Nat) : ((sgn c == Str.ofString "\\") || (sgn c == Str.ofString "/")) = (c == 92 || c == 47) := by
  have e1 : Str.ofString "\\" = sgn 92 := by decide +kernel
  have e2 : Str.ofString "/" = sgn 47 := by decide +kernel
  have e : ∀ a b : Nat, (sgn a == sgn b) = (a == b) := by
    intro a b
    by_cases h : a = b
    · subst h; simp
    · rw [beq_eq_false_iff_ne.mpr h, beq_eq_false_iff_ne]
      intro h'; apply h
      have := congrArg (fun x : Str => x.cps.toList) h'
      simpa [sgn] using this
  rw [e1, e2, e, e]
set_option maxRecDepth 100000 in
set_option maxHeartbeats 8000000 in
theorem has_ok {w : World} {mean : ExcName → Option Value} {mg mb : Str → Option Value} {sx dx : Addr} {c : Nat} {l : List Nat} {u1 u2 u3 t1 t3 : Tok} {f : Nat} {t : Tok} {x : Str} {news : List (Addr × Obj)} (hxf : x = sgn f) (h1 : (sx, instObj 86 dx) ∈ news) (h2 : (dx, synD w c l u1 u2 u3 t1 t3) ∈ news) :
    Ctr w mean mg mb 1 62 [.ref sx, .str x t] news (fun r news' => r = .bool (l.contains f) ∧ news' = news) := by
  w_on
  unfold Ctr
  k_fill
  intro dp un gd cn cs a ccd cl outer A₀ base h₀ L m s Q E B F X N T hk hd hu hret
  subst hxf
  refine wpAny_call ?_
  k_dflt ktr_enter
  w_strict (
    k_steps
    exact hret _ _ _ _ (by k_asm) (by k_asm) ⟨by rw [show sgn f = ⟨#[f]⟩ from rfl, occ_txt, Bool.not_not], rfl⟩)
local macro_rules | `(tactic| walk_at "call ref") => `(tactic| (k_here; (with_reducible show wpAny _ _ (call (Value.ref 62) _) _ _ _); k_dflt (refine' Ctr.useR (has_ok ?hx ?h1 ?h2) ?B ?F ?X ?N ?T ?hk ?hd ?hu ?_; (case B => k_asm); (case F => k_asm); (case X => k_asm); (case N => k_asm); (case T => k_asm); (case h1 => k_mem); (case h2 => k_mem); (case hx => first | exact sgn1 | exact sgn2 | exact sgn3 | exact sgn4 | exact sgnb | exact sgnc | exact sgnn); (case hk => first | exact rfl | assumption); (case hd => ktr_room); (case hu => ktr_units); k_whole; intro r9 h' tk' F' N' p9; subst p9; (try dsimp only); (try k_sweep); (try k_fold))))
set_option maxRecDepth 100000 in
set_option maxHeartbeats 8000000 in
theorem style_ok {w : World} {mean : ExcName → Option Value} {mg mb : Str → Option Value} {sx dx : Addr} {c : Nat} {l : List Nat} {u1 u2 u3 t1 t3 : Tok} {news : List (Addr × Obj)} (h1 : (sx, instObj 86 dx) ∈ news) (h2 : (dx, synD w c l u1 u2 u3 t1 t3) ∈ news) :
    Ctr w mean mg mb 3 83 [.ref sx] news (fun r news' => (∃ t, r = .str (styl (l.contains 98) (l.contains 99)) t) ∧ news' = news) := by
  w_on
  unfold Ctr
  k_fill
  intro dp un gd cn cs a ccd cl outer A₀ base h₀ L m s Q E B F X N T hk hd hu hret
  refine wpAny_call ?_
  k_dflt ktr_enter
  w_strict (
    k_steps
    all_goals (refine hret _ _ _ _ (by k_asm) (by k_asm) ⟨str_eq ?_, rfl⟩)
    all_goals (simp only [styl, *]; try rfl))
set_option maxRecDepth 100000 in
set_option maxHeartbeats 8000000 in
theorem esc_ok {w : World} {mean : ExcName → Option Value} {mg mb : Str → Option Value} {sx dx : Addr} {c : Nat} {l : List Nat} {u1 u2 u3 t1 t3 : Tok} {news : List (Addr × Obj)} (h1 : (sx, instObj 86 dx) ∈ news) (h2 : (dx, synD w c l u1 u2 u3 t1 t3) ∈ news) :
    Ctr w mean mg mb 1 69 [.ref sx] news (fun r news' => r = .bool (c == 92 || c == 47) ∧ news' = news) := by
  w_on
  unfold Ctr
  k_fill
  intro dp un gd cn cs a ccd cl outer A₀ base h₀ L m s Q E B F X N T hk hd hu hret
  refine wpAny_call ?_
  k_dflt ktr_enter
  w_strict (
    k_steps
    all_goals (refine hret _ _ _ _ (by k_asm) (by k_asm) ⟨?_, rfl⟩)
    · rename (_ = true) => q9
      rw [← esc_eq, q9, Bool.true_or]
    · rename (_ = false) => q9
      rw [← esc_eq, q9, Bool.false_or])
set_option maxRecDepth 100000 in
set_option maxHeartbeats 8000000 in
theorem pair_ok {w : World} {mean : ExcName → Option Value} {mg mb : Str → Option Value} {sx dx : Addr} {c : Nat} {l : List Nat} {u1 u2 u3 t1 t3 : Tok} {sx' dx' : Addr} {c' : Nat} {l' : List Nat} {u1' u2' u3' t1' t3' : Tok} {news : List (Addr × Obj)} (h1 : (sx, instObj 86 dx) ∈ news) (h2 : (dx, synD w c l u1 u2 u3 t1 t3) ∈ news) (h3 : (sx', instObj 86 dx') ∈ news) (h4 : (dx', synD w c' l' u1' u2' u3' t1' t3') ∈ news) :
    Ctr w mean mg mb 3 206 [.ref sx, .ref sx'] news (fun r news' => (∃ t, r = .str (styl (l.contains 98) (l.contains 99 || l'.contains 99)) t) ∧ news' = news) := by
  w_on
  unfold Ctr
  k_fill
  intro dp un gd cn cs a ccd cl outer A₀ base h₀ L m s Q E B F X N T hk hd hu hret
  refine wpAny_call ?_
  k_dflt ktr_enter
  w_strict (
    k_steps
    all_goals (refine hret _ _ _ _ (by k_asm) (by k_asm) ⟨str_eq ?_, rfl⟩)
    all_goals (simp only [styl, Bool.true_or, Bool.false_or, *]; try rfl))
end
section
-- LawS
local macro_rules | `(tactic| walk_at "call ref") => `(tactic| (k_here; k_dflt (refine' draw_use ?B ?F ?X ?N ?T ?hk ?U ?hx ?hxd ?hI ?hlen ?n0 ?n1 ?k0 ?k1 ?hd ?hu ?_; (case B => k_asm); (case F => k_asm); (case X => k_asm); (case N => k_asm); (case T => k_asm); (case hk => first | exact rfl | assumption); (case U => intro t2; k_upd); (case hx => k_mem); (case hxd => first | assumption | k_ne); (case hI => assumption); (case hlen => assumption); (case n0 => omega); (case n1 => omega); (case k0 => omega); (case k1 => omega); (case hd => ktr_room); (case hu => ktr_units); k_whole; intro d1 t1 t2 h' tk' F' N' hd0 hd1; (try dsimp only); (try k_sweep); (try k_fold))))
theorem tupL {prog : Program} {w : World} {A : Around} {E : Value → Shared → Prop} {s : Shared} {h₀ : Heap} {L : Addr} {m : Str → Option Value} {news : List (Addr × Obj)} {l : Addr} {ys : List Value} {Q : Value → Shared → Prop}
    (F : Fr h₀ L s.heap m) (N : News h₀ L s.heap news) (hl : s.heap.IsList l ys.toArray) (hz : ys.length ≤ 100)
    (h : ∀ D h', Fr h₀ L h' m → News h₀ L h' ((D, tupOf ys.toArray 0) :: news) → (∀ p ∈ news, p.1 < D) → Q (.ref D) { s with heap := h' }) : wpAny (model prog w) A (call (.type "tuple") [.ref l]) Q E s := by
  refine call_tuple_list hl (fun h' hk => ?_) (by rw [sizeLine_eq, List.size_toArray]; omega)
  have F' : Fr h₀ L h' m := F.keeps hk
  have N' : News h₀ L h' news := fun p hp => ⟨hk _ _ (N p hp).1, (N p hp).2⟩
  exact h _ _ (F'.push _) (N'.push F' _) fun p hp => Heap.lt_size (N' p hp).1
theorem len_of {ys : List Value} {f : Int → Int} {d : Int} (hL : ys.length = (List.map f (rangeKs 0 (d - 0).toNat)).length) (h : d < 100) : ys.length ≤ 100 := by
  rw [hL, List.length_map, rangeKs_length]; omega
local macro_rules | `(tactic| walk_at "call type:tuple") => `(tactic| (k_here; (with_reducible show wpAny _ _ (call (Value.type _) [Value.ref _]) _ _ _); k_dflt (refine' tupL ?k1 ?k2 ?k3 ?k4 ?_; (case k1 => k_asm); (case k2 => k_asm); (case k3 => exact News.isList (by k_asm) (by k_mem)); (case k4 => exact len_of (by assumption) (by omega)); k_whole); intro D' h' F' N' l1; (try k_lt l1); (try k_sweep)))
theorem item_pick {prog : Program} {w : World} {A : Around} {E : Value → Shared → Prop} {s : Shared} {value slice : PySem.Expr} {l : Addr} {vs : List Value} {k : Int} {u : Tok} {Q : Value → Shared → Prop} (hl : s.heap.IsList l vs.toArray) (h0 : 0 ≤ k) (h1 : k < vs.length) (hhi : k < 2 ^ 63) (h : ∀ v, vs[k.toNat]? = some v → Q v s)
    (hs : subscripted slice false (.ref l) (.int k u) = operate [.ref l, .int k u] (getItem (.ref l) (.int k u)) := by with_unfolding_all rfl) :
    wpAny (model prog w) A (subscriptTail value slice (.ref l) (.int k u)) Q E s :=
  item_litK hl h0 hhi (List.getElem?_eq_getElem (by omega)) (h _ (List.getElem?_eq_getElem (by omega))) hs
local macro_rules | `(tactic| walk_at "last subscriptTail") => `(tactic| (k_here; k_dflt (refine' item_pick (News.isList ?N ?m) ?h0 ?h1 ?h2 ?_ ?s; (case N => k_asm); (case m => k_mem); (case h0 => assumption); (case h1 => simp only [List.length_cons, List.length_nil]; omega); (case h2 => omega); (case s => with_unfolding_all rfl); intro v9 hv9)))
theorem pick2 {a b v : Value} {k : Nat} (h : [a, b][k]? = some v) : v = a ∨ v = b := by
  match k, h with
  | 0, h => exact .inl (Option.some.inj h).symm
  | 1, h => exact .inr (Option.some.inj h).symm
theorem pick3 {a b c v : Value} {k : Nat} (h : [a, b, c][k]? = some v) : v = a ∨ v = b ∨ v = c := by
  match k, h with
  | 0, h => exact .inl (Option.some.inj h).symm
  | 1, h => exact .inr (.inl (Option.some.inj h).symm)
  | 2, h => exact .inr (.inr (Option.some.inj h).symm)
noncomputable def noneOr (k : Int) (v : Value) : Prop := v = .none ∨ ∃ t, v = .int k t
theorem noneOr_of {k : Int} {t : Tok} {v : Value} {j : Nat} (h : [.none, .int k t][j]? = some v) : noneOr k v := (pick2 h).imp id fun e => ⟨_, e⟩
noncomputable def stT (op : Addr) (b l dp : Int) (lo wd st : Value) (ne : Bool) (t1 t2 t3 t4 t5 t6 : Tok) : Obj :=
  tupOf #[.ref op, .int b t1, .int (0 - l) t2, lo, wd, st, .int dp t3, .str (Str.ofString "b") t4, .bool ne, .int 4 t5, .bool (dp == 0), .str (Str.ofString "end") t6] 0
noncomputable def StatePost (r : Value) (news' : List (Addr × Obj)) : Prop :=
  ∃ ti op ys nO b l dp lo wd st ne t1 t2 t3 t4 t5 t6, r = .ref ti ∧ news' = [(ti, stT op b l dp lo wd st ne t1 t2 t3 t4 t5 t6), (op, tupOf ys.toArray 0)] ∧ IntsAre ys ((rangeKs 0 nO).map fun k => 1 + 3 * k) ∧ nO < 4 ∧ (0 ≤ b ∧ b < 3) ∧ (0 ≤ l ∧ l < 3) ∧
    (dp = 0 ∨ dp = -1 ∨ dp = 1 ∨ dp = 2) ∧ noneOr 5 lo ∧ noneOr 6 wd ∧ (st = .none ∨ (∃ t, st = .int 0 t) ∨ ∃ t, st = .int 34 t)
theorem pair_news {h₀ h : Heap} {L : Addr} {news : List (Addr × Obj)} {p q : Addr × Obj} (N : News h₀ L h news) (hp : p ∈ news) (hq : q ∈ news) : News h₀ L h [p, q] :=
  news_sub N fun x hx => by
    rcases List.mem_cons.mp hx with rfl | hx
    · exact hp
    · rcases List.mem_cons.mp hx with rfl | hx
      · exact hq
      · cases hx
theorem deep_of (d : Int) : [0, -1, 1, 2].getD d.toNat (0 : Int) = 0 ∨ [0, -1, 1, 2].getD d.toNat (0 : Int) = -1 ∨ [0, -1, 1, 2].getD d.toNat (0 : Int) = 1 ∨ [0, -1, 1, 2].getD d.toNat (0 : Int) = 2 := by
  generalize d.toNat = k
  match k with
  | 0 => exact .inl rfl
  | 1 => exact .inr (.inl rfl)
  | 2 => exact .inr (.inr (.inl rfl))
  | 3 => exact .inr (.inr (.inr rfl))
  | k + 4 => exact .inl rfl
set_option maxRecDepth 100000 in
set_option maxHeartbeats 8000000 in
theorem state_ok (w : World) (mean : ExcName → Option Value) (mg mb : Str → Option Value) (dk xs : Addr) (vs : List Value) (ns : List Int) (e e2 : Nat) (n : Int) (t : Tok) (rest : List (Addr × Obj))
    (hI : IntsAre vs ns) (hlen : ns.length ≤ 60) (hxd : xs ≠ dk) (hne : ∀ p ∈ rest, p.1 ≠ dk) (hn0 : 0 ≤ n) (hn1 : n < 900) :
    Ctr w mean mg mb 3 380 [.ref dk] ((dk, listOf #[.ref xs, .int n t] e) :: (xs, listOf vs.toArray e2) :: rest)
      StatePost := by
  w_on
  unfold Ctr
  k_fill
  intro dp un gd cn cs a ccd cl outer A₀ base h₀ L m s Q E B F X N T hk hd hu hret
  refine wpAny_call ?_
  k_dflt ktr_enter
  w_strict (
    k_steps
    rename [Value.none, Value.int 5 _][_]? = some _ => q5
    rename [Value.none, Value.int 6 _][_]? = some _ => q6
    rename [Value.none, Value.int 0 _, Value.int 34 _][_]? = some _ => q3
    have q3' := pick3 q3
    refine hret _ [(_, stT _ _ _ _ _ _ _ _ _ _ _ _ _ _), (_, tupOf _ 0)] _ _ (by k_asm) (pair_news (by k_asm) (.head _) (by repeat (first | exact List.Mem.head _ | apply List.Mem.tail))) ⟨_, _, _, _, _, _, _, _, _, _, _, _, _, _, _, _, _, rfl, rfl, by assumption, by omega, ⟨by assumption, by assumption⟩, ⟨by assumption, by assumption⟩, deep_of _, noneOr_of q5, noneOr_of q6, q3'.imp id fun e => e.imp (fun e => ⟨_, e⟩) fun e => ⟨_, e⟩⟩)
end
section
-- PS
local macro_rules | `(tactic| k_handed) => `(tactic| assumption)
noncomputable abbrev psD (w : World) (v0 v1 v2 v3 v4 v5 v6 v7 v8 v9 v10 v11 : Value) (u0 u1 u2 u3 u4 u5 u6 u7 u8 u9 u10 u11 : Tok) : Obj :=
  dictOf [⟨PyData.keyHash w.params (Str.ofString "opens"), .str (Str.ofString "opens") u0, v0⟩, ⟨PyData.keyHash w.params (Str.ofString "below"), .str (Str.ofString "below") u1, v1⟩, ⟨PyData.keyHash w.params (Str.ofString "least"), .str (Str.ofString "least") u2, v2⟩, ⟨PyData.keyHash w.params (Str.ofString "whole"), .str (Str.ofString "whole") u3, v3⟩, ⟨PyData.keyHash w.params (Str.ofString "word"), .str (Str.ofString "word") u4, v4⟩, ⟨PyData.keyHash w.params (Str.ofString "string"), .str (Str.ofString "string") u5, v5⟩, ⟨PyData.keyHash w.params (Str.ofString "comment"), .str (Str.ofString "comment") u6, v6⟩, ⟨PyData.keyHash w.params (Str.ofString "style"), .str (Str.ofString "style") u7, v7⟩, ⟨PyData.keyHash w.params (Str.ofString "nests"), .str (Str.ofString "nests") u8, v8⟩, ⟨PyData.keyHash w.params (Str.ofString "start"), .str (Str.ofString "start") u9, v9⟩, ⟨PyData.keyHash w.params (Str.ofString "quoted"), .str (Str.ofString "quoted") u10, v10⟩, ⟨PyData.keyHash w.params (Str.ofString "half"), .str (Str.ofString "half") u11, v11⟩] 12
set_option maxRecDepth 100000 in
set_option maxHeartbeats 8000000 in
theorem stateof_ok {w : World} {mean : ExcName → Option Value} {mg mb : Str → Option Value} {ti : Addr} {v0 v1 v2 v3 v4 v5 v6 v7 v8 v9 v10 v11 : Value} {e : Nat} {news : List (Addr × Obj)} (h1 : (ti, tupOf #[v0, v1, v2, v3, v4, v5, v6, v7, v8, v9, v10, v11] e) ∈ news) :
    Ctr w mean mg mb 3 292 [.ref ti] news (fun r news' => ∃ st d u0 u1 u2 u3 u4 u5 u6 u7 u8 u9 u10 u11, r = .ref st ∧ news' = (st, instObj 281 d) :: (d, psD w v0 v1 v2 v3 v4 v5 v6 v7 v8 v9 v10 v11 u0 u1 u2 u3 u4 u5 u6 u7 u8 u9 u10 u11) :: news ∧ (∀ p ∈ news, p.1 < d) ∧ d < st) := by
  w_on
  unfold Ctr
  k_fill
  intro dp un gd cn cs a ccd cl outer A₀ base h₀ L m s Q E B F X N T hk hd hu hret
  refine wpAny_call ?_
  k_dflt ktr_enter
  w_strict (
    k_steps
    rename (∀ p ∈ news, _ < _) => la9
    rename (@LT.lt Addr _ _ _) => lb9
    exact hret _ _ _ _ (by k_asm) (by k_asm) ⟨_, _, _, _, _, _, _, _, _, _, _, _, _, _, rfl, rfl, la9, lb9⟩)
set_option maxRecDepth 100000 in
set_option maxHeartbeats 8000000 in
theorem items_ok {w : World} {mean : ExcName → Option Value} {mg mb : Str → Option Value} {st d : Addr} {v0 v1 v2 v3 v4 v5 v6 v7 v8 v9 v10 v11 : Value} {u0 u1 u2 u3 u4 u5 u6 u7 u8 u9 u10 u11 : Tok} {news : List (Addr × Obj)} (h1 : (st, instObj 281 d) ∈ news) (h2 : (d, psD w v0 v1 v2 v3 v4 v5 v6 v7 v8 v9 v10 v11 u0 u1 u2 u3 u4 u5 u6 u7 u8 u9 u10 u11) ∈ news) (hv0 : handedIn v0 = true) (hv1 : handedIn v1 = true) (hv2 : handedIn v2 = true) (hv3 : handedIn v3 = true) (hv4 : handedIn v4 = true) (hv5 : handedIn v5 = true) (hv6 : handedIn v6 = true) (hv7 : handedIn v7 = true) (hv8 : handedIn v8 = true) (hv9 : handedIn v9 = true) (hv10 : handedIn v10 = true) (hv11 : handedIn v11 = true) :
    Ctr w mean mg mb 3 278 [.ref st] news (fun r news' => ∃ ti, r = .ref ti ∧ news' = (ti, tupOf #[v0, v1, v2, v3, v4, v5, v6, v7, v8, v9, v10, v11] 0) :: news ∧ (∀ p ∈ news, p.1 < ti)) := by
  w_on
  unfold Ctr
  k_fill
  intro dp un gd cn cs a ccd cl outer A₀ base h₀ L m s Q E B F X N T hk hd hu hret
  refine wpAny_call ?_
  k_dflt ktr_enter
  w_strict (
    k_steps
    rename (_ < _ ∧ _ < _ ∧ AllLt _ news) => la9
    exact hret _ _ _ _ (by k_asm) (news_sub (by k_asm) (List.forall_mem_cons.mpr ⟨.head _, fun p hp => .tail _ (.tail _ (.tail _ hp))⟩)) ⟨_, rfl, rfl, ktn_ltOf la9.2.2⟩)
end
section
-- LoopA
noncomputable def forBody : Stmt → List Stmt
  | .For _ _ b _ _ => b
  | _ => []
noncomputable def loopBody : List Stmt := forBody (lawBody.getD 6 (.Pass ⟨0, 0, 0, 0⟩))
noncomputable def atV (mvs : List Value) (a : Int) : Value := if 0 ≤ a ∧ a < mvs.length then mvs.getD a.toNat .none else .none
theorem atV_in {mvs : List Value} {a : Int} {v : Value} (h0 : 0 ≤ a) (h1 : a < mvs.length) (h : mvs[a.toNat]? = some v) : atV mvs a = v := by
  unfold atV
  rw [if_pos ⟨h0, h1⟩, List.getD_eq_getElem?_getD, h]; rfl
theorem atV_lo {mvs : List Value} {a : Int} (h0 : ¬ 0 ≤ a) : atV mvs a = .none := if_neg fun h => h0 h.1
theorem atV_hi {mvs : List Value} {a : Int} (h0 : ¬ a < mvs.length) : atV mvs a = .none := if_neg fun h => h0 h.2
theorem len_lst {prog : Program} {w : World} {A : Around} {E : Value → Shared → Prop} {s : Shared} {t : Addr} {ys : List Value} {Q : Value → Shared → Prop} (ht : s.heap.IsList t ys.toArray) (hf : ys.length < 8)
    (h : ∀ u tk, Q (.int ys.length u) { s with toks := tk }) : wpAny (model prog w) A (call (.builtin "len") [.ref t]) Q E s :=
  PyProof.Rows.len_list ht (by rw [List.size_toArray]; omega) (h _ _)
local macro_rules | `(tactic| walk_at "call builtin:len") => `(tactic| (k_here; (with_reducible show wpAny _ _ (call (Value.builtin "len") [Value.ref _]) _ _ _); k_dflt (refine' len_lst (News.isList ?N ?m) ?f ?_; (case N => k_asm); (case m => k_mem); (case f => assumption)); intro u9 tk9))
local macro_rules | `(tactic| walk_at "last subscriptTail") => `(tactic| (k_here; k_dflt (refine' item_pick (News.isList ?N ?m) ?h0 ?h1 ?h2 ?_ ?s; (case N => k_asm); (case m => k_mem); (case h0 => omega); (case h1 => omega); (case h2 => omega); (case s => with_unfolding_all rfl); intro v9 hv9)))
set_option maxRecDepth 100000 in
set_option maxHeartbeats 8000000 in
theorem loop0 (w : World) (mean : ExcName → Option Value) (mg mb : Str → Option Value) (fa L rl mk : Addr) (cd : Value) (rvs mvs : List Value) (base h₀ : Heap) (m : Str → Option Value) (a : Int) (ta : Tok) (news : List (Addr × Obj)) (s : Shared) (Q : Flow → Shared → Prop) (E : Value → Shared → Prop)
    (B : Below callerA base [] h₀) (F : Fr h₀ L s.heap m) (X : (K0 w.params).In h₀) (N : News h₀ L s.heap news) (T : Top view0 (looseW view0 [Str.ofString "ParseState"]) mean mg mb h₀)
    (g1 : (rl, LCg.lst rvs) ∈ news) (g2 : (mk, LCg.lst mvs) ∈ news) (hl1 : rvs.length < 8) (hl2 : mvs.length = rvs.length) (ha0 : -2 < a) (ha1 : a < 20)
    (hm1 : m (Str.ofString "row") = some (.ref rl)) (hm2 : m (Str.ofString "marks") = some (.ref mk)) (hm3 : m (Str.ofString "at") = some (.int a ta))
    (hret : ∀ tk' h', Fr h₀ L h' (fun y => if y = Str.ofString "one" then some (atV mvs a) else m y) → News h₀ L h' news → Q .next { s with heap := h', toks := tk' }) :
    wpAny (model Challenge.rw_ok0055_01.row.prog w) (callerA.deeper (envLaw L fa cd)) (exec (loopBody.getD 0 (.Pass ⟨0, 0, 0, 0⟩)) (envLaw L fa cd)) Q E s := by
  w_on
  revert X
  k_fill
  intro X
  unfold envLaw
  obtain ⟨sc, hsc⟩ : ∃ sc, sc = lawScope := ⟨_, rfl⟩
  rw [← hsc]
  conv at hsc => rhs; whnf
  subst hsc
  conv => arg 3; arg 1; whnf
  w_strict (
    k_steps
    all_goals (refine hret _ _ ?_ (by k_asm))
    · rename mvs[_]? = some _ => q9
      rw [atV_in (by omega) (by omega) q9]; k_asm
    · rw [atV_hi (by omega)]; k_asm
    · rw [atV_lo (by omega)]; k_asm)
set_option maxRecDepth 100000 in
set_option maxHeartbeats 8000000 in
theorem loop1 (w : World) (mean : ExcName → Option Value) (mg mb : Str → Option Value) (fa L rl mk : Addr) (cd : Value) (rvs mvs : List Value) (base h₀ : Heap) (m : Str → Option Value) (a : Int) (ta : Tok) (news : List (Addr × Obj)) (s : Shared) (Q : Flow → Shared → Prop) (E : Value → Shared → Prop)
    (B : Below callerA base [] h₀) (F : Fr h₀ L s.heap m) (X : (K0 w.params).In h₀) (N : News h₀ L s.heap news) (T : Top view0 (looseW view0 [Str.ofString "ParseState"]) mean mg mb h₀)
    (g1 : (rl, LCg.lst rvs) ∈ news) (g2 : (mk, LCg.lst mvs) ∈ news) (hl1 : rvs.length < 8) (hl2 : mvs.length = rvs.length) (ha0 : -2 < a) (ha1 : a < 20)
    (hm1 : m (Str.ofString "row") = some (.ref rl)) (hm2 : m (Str.ofString "marks") = some (.ref mk)) (hm3 : m (Str.ofString "at") = some (.int a ta))
    (hret : ∀ tk' h', Fr h₀ L h' (fun y => if y = Str.ofString "other" then some (atV mvs (a + 1)) else m y) → News h₀ L h' news → Q .next { s with heap := h', toks := tk' }) :
    wpAny (model Challenge.rw_ok0055_01.row.prog w) (callerA.deeper (envLaw L fa cd)) (exec (loopBody.getD 1 (.Pass ⟨0, 0, 0, 0⟩)) (envLaw L fa cd)) Q E s := by
  w_on
  revert X
  k_fill
  intro X
  unfold envLaw
  obtain ⟨sc, hsc⟩ : ∃ sc, sc = lawScope := ⟨_, rfl⟩
  rw [← hsc]
  conv at hsc => rhs; whnf
  subst hsc
  conv => arg 3; arg 1; whnf
  w_strict (
    k_steps
    all_goals (refine hret _ _ ?_ (by k_asm))
    · rename mvs[_]? = some _ => q9
      rw [atV_in (by omega) (by omega) q9]; k_asm
    · rw [atV_hi (by omega)]; k_asm)
end
section
-- PT
local macro_rules | `(tactic| k_handed) => `(tactic| assumption)
noncomputable def lastV (is : List Int) (v : Value) : Prop := match is.getLast? with
  | none => v = .none
  | some x => ∃ t, v = .int x t
noncomputable def isN : Value → Bool
  | .none => true
  | _ => false
noncomputable def strF : Value → Value
  | .int k t => if k = 0 then .bool true else .int k t
  | v => v
noncomputable def cmF (dp : Int) (ne : Bool) (t : Tok) : Value := if dp = 0 then .none else if 0 < dp ∧ ne = true then .int dp t else .bool true
noncomputable def stOk (st : Value) : Prop := st = .none ∨ (∃ t, st = .int 0 t) ∨ ∃ t, st = .int 34 t
theorem four {ys : List Value} {is : List Int} (hI : IntsAre ys is) (hl : ys.length < 4) : (ys = [] ∧ is = []) ∨ (∃ a t, ys = [.int a t] ∧ is = [a]) ∨ (∃ a t b u, ys = [.int a t, .int b u] ∧ is = [a, b]) ∨ (∃ a t b u c v, ys = [.int a t, .int b u, .int c v] ∧ is = [a, b, c]) := by
  cases hI with
  | nil => exact .inl ⟨rfl, rfl⟩
  | cons _ _ h =>
    cases h with
    | nil => exact .inr (.inl ⟨_, _, rfl, rfl⟩)
    | cons _ _ h =>
      cases h with
      | nil => exact .inr (.inr (.inl ⟨_, _, _, _, rfl, rfl⟩))
      | cons _ _ h =>
        cases h with
        | nil => exact .inr (.inr (.inr ⟨_, _, _, _, _, _, rfl, rfl⟩))
        | cons _ _ h => exact absurd hl (by simp)
set_option maxRecDepth 100000 in
set_option maxHeartbeats 8000000 in
theorem inner_ok {w : World} {mean : ExcName → Option Value} {mg mb : Str → Option Value} {st d op : Addr} {ys : List Value} {is : List Int} {e : Nat} {v1 v2 v3 v4 v5 v6 v7 v8 v9 v10 v11 : Value} {u0 u1 u2 u3 u4 u5 u6 u7 u8 u9 u10 u11 : Tok} {news : List (Addr × Obj)} (h1 : (st, instObj 281 d) ∈ news) (h2 : (d, psD w (.ref op) v1 v2 v3 v4 v5 v6 v7 v8 v9 v10 v11 u0 u1 u2 u3 u4 u5 u6 u7 u8 u9 u10 u11) ∈ news) (h3 : (op, tupOf ys.toArray e) ∈ news) (hI : IntsAre ys is) (hl : ys.length < 4) :
    Ctr w mean mg mb 3 264 [.ref st] news (fun r news' => lastV is r ∧ news' = news) := by
  w_on
  unfold Ctr
  k_fill
  intro dp un gd cn cs a ccd cl outer A₀ base h₀ L m s Q E B F X N T hk hd hu hret
  rcases four hI hl with ⟨rfl, rfl⟩ | ⟨_, _, rfl, rfl⟩ | ⟨_, _, _, _, rfl, rfl⟩ | ⟨_, _, _, _, _, _, rfl, rfl⟩
  all_goals (
    refine wpAny_call ?_
    k_dflt ktr_enter
    w_strict (
      k_steps
      exact hret _ _ _ _ (by k_asm) (by k_asm) ⟨(by first | exact rfl | exact ⟨_, rfl⟩), rfl⟩))
local macro_rules | `(tactic| walk_at "call builtin:len") => `(tactic| (k_here; (with_reducible show wpAny _ _ (call (Value.builtin "len") [Value.ref _]) _ _ _); k_dflt (refine' PyProof.Rows.len_tuple (News.isTup ?N ?m) ?f ?_; (case N => k_asm); (case m => k_mem); (case f => (simp only [List.size_toArray]; omega)))))
set_option maxRecDepth 100000 in
set_option maxHeartbeats 8000000 in
theorem depth_ok {w : World} {mean : ExcName → Option Value} {mg mb : Str → Option Value} {st d op : Addr} {b : Int} {tb : Tok} {ys : List Value} {e : Nat} {v2 v3 v4 v5 v6 v7 v8 v9 v10 v11 : Value} {u0 u1 u2 u3 u4 u5 u6 u7 u8 u9 u10 u11 : Tok} {news : List (Addr × Obj)} (h1 : (st, instObj 281 d) ∈ news) (h2 : (d, psD w (.ref op) (.int b tb) v2 v3 v4 v5 v6 v7 v8 v9 v10 v11 u0 u1 u2 u3 u4 u5 u6 u7 u8 u9 u10 u11) ∈ news) (h3 : (op, tupOf ys.toArray e) ∈ news) (hl : ys.length < 4) (hb : 0 ≤ b ∧ b < 3) :
    Ctr w mean mg mb 3 257 [.ref st] news (fun r news' => (∃ t, r = .int (ys.length - b) t) ∧ news' = news) := by
  w_on
  unfold Ctr
  k_fill
  intro dp un gd cn cs a ccd cl outer A₀ base h₀ L m s Q E B F X N T hk hd hu hret
  refine wpAny_call ?_
  k_dflt ktr_enter
  w_strict (
    k_steps
    exact hret _ _ _ _ (by k_asm) (by k_asm) ⟨⟨_, rfl⟩, rfl⟩)
set_option maxRecDepth 100000 in
set_option maxHeartbeats 8000000 in
theorem plain_ok {w : World} {mean : ExcName → Option Value} {mg mb : Str → Option Value} {st d : Addr} {dc : Int} {sv : Value} {tb : Tok} {v0 v1 v2 v3 v4 v7 v8 v9 v10 v11 : Value} {u0 u1 u2 u3 u4 u5 u6 u7 u8 u9 u10 u11 : Tok} {news : List (Addr × Obj)} (h1 : (st, instObj 281 d) ∈ news) (h2 : (d, psD w v0 v1 v2 v3 v4 sv (.int dc tb) v7 v8 v9 v10 v11 u0 u1 u2 u3 u4 u5 u6 u7 u8 u9 u10 u11) ∈ news) (hs : stOk sv) :
    Ctr w mean mg mb 3 271 [.ref st] news (fun r news' => r = .bool (isN sv && dc == 0) ∧ news' = news) := by
  w_on
  unfold Ctr
  k_fill
  intro dp un gd cn cs a ccd cl outer A₀ base h₀ L m s Q E B F X N T hk hd hu hret
  rcases hs with rfl | ⟨ts, rfl⟩ | ⟨ts, rfl⟩
  · refine wpAny_call ?_
    k_dflt ktr_enter
    w_strict (
      k_steps
      all_goals (exact hret _ _ _ _ (by k_asm) (by k_asm) ⟨rfl, rfl⟩))
  · refine wpAny_call ?_
    k_dflt ktr_enter
    w_strict (
      k_steps
      all_goals (exact hret _ _ _ _ (by k_asm) (by k_asm) ⟨rfl, rfl⟩))
  · refine wpAny_call ?_
    k_dflt ktr_enter
    w_strict (
      k_steps
      all_goals (exact hret _ _ _ _ (by k_asm) (by k_asm) ⟨rfl, rfl⟩))
end
section
-- PU
local macro_rules | `(tactic| k_handed) => `(tactic| assumption)
local macro_rules | `(tactic| walk_at "call ref") => `(tactic| (k_here; (with_reducible show wpAny _ _ (call (Value.ref 257) _) _ _ _); k_dflt (refine' Ctr.useR (depth_ok ?h1 ?h2 ?h3 ?hl ?hb) ?B ?F ?X ?N ?T ?hk ?hd ?hu ?_; (case B => k_asm); (case F => k_asm); (case X => k_asm); (case N => k_asm); (case T => k_asm); (case h1 => k_mem); (case h2 => k_mem); (case h3 => k_mem); (case hl => assumption); (case hb => assumption); (case hk => first | exact rfl | assumption); (case hd => ktr_room); (case hu => ktr_units); k_whole; intro r9 h' tk' F' N' p9; (obtain ⟨t9, p9⟩ := p9); subst p9; (try dsimp only); (try k_sweep); (try k_fold))))
local macro_rules | `(tactic| walk_at "call ref") => `(tactic| (k_here; (with_reducible show wpAny _ _ (call (Value.ref 264) _) _ _ _); k_dflt (refine' Ctr.useR (inner_ok ?h1 ?h2 ?h3 ?hI ?hl) ?B ?F ?X ?N ?T ?hk ?hd ?hu ?_; (case B => k_asm); (case F => k_asm); (case X => k_asm); (case N => k_asm); (case T => k_asm); (case h1 => k_mem); (case h2 => k_mem); (case h3 => k_mem); (case hI => assumption); (case hl => assumption); (case hk => first | exact rfl | assumption); (case hd => ktr_room); (case hu => ktr_units); k_whole; intro r9 h' tk' F' N' p9; (try dsimp only); (try k_sweep); (try k_fold))))
theorem cm0 {dc : Int} {ne : Bool} {t : Tok} (h : dc = 0) : cmF dc ne t = .none := if_pos h
theorem cmneg {dc : Int} {ne : Bool} {t : Tok} (h : dc < 0) : cmF dc ne t = .bool true := by
  unfold cmF; rw [if_neg (by omega), if_neg (by omega)]
theorem cmpos {dc : Int} {ne : Bool} {t : Tok} (h : dc ≠ 0) (h2 : ¬ dc < 0) (h3 : ne = true) : cmF dc ne t = .int dc t := by
  unfold cmF; rw [if_neg h, if_pos ⟨by omega, h3⟩]
theorem cmno {dc : Int} {ne : Bool} {t : Tok} (h : dc ≠ 0) (h3 : ne = false) : cmF dc ne t = .bool true := by
  subst h3; unfold cmF; rw [if_neg h, if_neg (by simp)]
set_option maxRecDepth 100000 in
set_option maxHeartbeats 8000000 in
theorem told_ok {w : World} {mean : ExcName → Option Value} {mg mb : Str → Option Value} {st d op : Addr} {b dc : Int} {ne : Bool} {sv : Value} {tb tc : Tok} {ys : List Value} {is : List Int} {e : Nat} {v2 v3 v4 v7 v9 v10 v11 : Value} {u0 u1 u2 u3 u4 u5 u6 u7 u8 u9 u10 u11 : Tok} {news : List (Addr × Obj)} (h1 : (st, instObj 281 d) ∈ news) (h2 : (d, psD w (.ref op) (.int b tb) v2 v3 v4 sv (.int dc tc) v7 (.bool ne) v9 v10 v11 u0 u1 u2 u3 u4 u5 u6 u7 u8 u9 u10 u11) ∈ news) (h3 : (op, tupOf ys.toArray e) ∈ news) (hI : IntsAre ys is) (hl : ys.length < 4) (hb : 0 ≤ b ∧ b < 3) (hs : stOk sv)
    (hv2 : handedIn v2 = true) (hv3 : handedIn v3 = true) (hv7 : handedIn v7 = true) (hv9 : handedIn v9 = true) (hv10 : handedIn v10 = true) :
    Ctr w mean mg mb 6 299 [.ref st] news (fun r news' => ∃ ti iv s9 c9 t, r = .ref ti ∧ lastV is iv ∧ s9 = strF sv ∧ c9 = cmF dc ne tc ∧ news' = (ti, tupOf #[.int (ys.length - b) t, iv, v3, s9, c9, v10, v2, v7, v9, .ref op] 0) :: news ∧ (∀ p ∈ news, p.1 < ti)) := by
  w_on
  unfold Ctr
  k_fill
  intro dp un gd cn cs a ccd cl outer A₀ base h₀ L m s Q E B F X N T hk hd hu hret
  rcases hs with rfl | ⟨ts, rfl⟩ | ⟨ts, rfl⟩
  · refine wpAny_call ?_
    k_dflt ktr_enter
    w_strict (
      k_steps
      all_goals (rename lastV _ _ => p9)
      all_goals (rename (∀ p ∈ news, _ < _) => la9)
      all_goals (refine hret _ _ _ _ (by k_asm) (by k_asm) ⟨_, _, _, _, _, rfl, p9, ?_, ?_, rfl, la9⟩)
      all_goals (first | rfl | exact (cm0 (by with_reducible assumption)).symm | exact (cmneg (by with_reducible assumption)).symm | exact (cmpos (by with_reducible assumption) (by with_reducible assumption) (by with_reducible assumption)).symm | exact (cmno (by with_reducible assumption) (by with_reducible assumption)).symm))
  · refine wpAny_call ?_
    k_dflt ktr_enter
    w_strict (
      k_steps
      all_goals (rename lastV _ _ => p9)
      all_goals (rename (∀ p ∈ news, _ < _) => la9)
      all_goals (refine hret _ _ _ _ (by k_asm) (by k_asm) ⟨_, _, _, _, _, rfl, p9, ?_, ?_, rfl, la9⟩)
      all_goals (first | rfl | exact (cm0 (by with_reducible assumption)).symm | exact (cmneg (by with_reducible assumption)).symm | exact (cmpos (by with_reducible assumption) (by with_reducible assumption) (by with_reducible assumption)).symm | exact (cmno (by with_reducible assumption) (by with_reducible assumption)).symm))
  · refine wpAny_call ?_
    k_dflt ktr_enter
    w_strict (
      k_steps
      all_goals (rename lastV _ _ => p9)
      all_goals (rename (∀ p ∈ news, _ < _) => la9)
      all_goals (refine hret _ _ _ _ (by k_asm) (by k_asm) ⟨_, _, _, _, _, rfl, p9, ?_, ?_, rfl, la9⟩)
      all_goals (first | rfl | exact (cm0 (by with_reducible assumption)).symm | exact (cmneg (by with_reducible assumption)).symm | exact (cmpos (by with_reducible assumption) (by with_reducible assumption) (by with_reducible assumption)).symm | exact (cmno (by with_reducible assumption) (by with_reducible assumption)).symm))
end
section
-- PW
set_option maxRecDepth 100000

structure Atom (v : Value) (d : PyData) : Prop where
  rd : ∀ h, Reads h v d []
  lay : d.canLay0 = true
  dep : d.depth = 0
  wt : d.weight ≤ 64
  sh : d.intsShort 13 = true
  shw : d.showable = true
  nd : d.hasDict = false
theorem atom_none : Atom .none .none := ⟨fun _ => .none, by decide +kernel, by decide +kernel, by decide +kernel, by decide +kernel, by decide +kernel, by decide +kernel⟩
theorem atom_bool (b : Bool) : Atom (.bool b) (.bool b) := ⟨fun _ => .bool b, by cases b <;> decide +kernel, by cases b <;> decide +kernel, by cases b <;> decide +kernel, by cases b <;> decide +kernel, by cases b <;> decide +kernel, by cases b <;> decide +kernel⟩
theorem atom_int20 (i : Int) (h0 : -20 ≤ i) (h1 : i ≤ 40) : (PyData.int i).canLay0 = true ∧ (PyData.int i).depth = 0 ∧ (PyData.int i).weight ≤ 64 ∧ (PyData.int i).intsShort 13 = true ∧ (PyData.int i).showable = true ∧ (PyData.int i).hasDict = false := by
  have all : ∀ n : Fin 61, (PyData.int ((n.val : Int) - 20)).canLay0 = true ∧ (PyData.int ((n.val : Int) - 20)).depth = 0 ∧ (PyData.int ((n.val : Int) - 20)).weight ≤ 64 ∧ (PyData.int ((n.val : Int) - 20)).intsShort 13 = true ∧ (PyData.int ((n.val : Int) - 20)).showable = true ∧ (PyData.int ((n.val : Int) - 20)).hasDict = false := by decide +kernel
  have := all ⟨(i + 20).toNat, by omega⟩
  have e : (((i + 20).toNat : Nat) : Int) - 20 = i := by omega
  simp only [e] at this
  exact this
theorem atom_int {i : Int} (t : Tok) (h0 : -20 ≤ i) (h1 : i ≤ 40) : Atom (.int i t) (.int i) :=
  let ⟨a, b, c, d, e, f⟩ := atom_int20 i h0 h1
  ⟨fun _ => .int i t, a, b, c, d, e, f⟩
theorem atom_lo5 {v : Value} (h : noneOr 5 v) : ∃ d, Atom v d := by
  rcases h with rfl | ⟨t, rfl⟩
  · exact ⟨_, atom_none⟩
  · exact ⟨_, atom_int t (by decide) (by decide)⟩
theorem atom_lo6 {v : Value} (h : noneOr 6 v) : ∃ d, Atom v d := by
  rcases h with rfl | ⟨t, rfl⟩
  · exact ⟨_, atom_none⟩
  · exact ⟨_, atom_int t (by decide) (by decide)⟩
theorem atom_st {v : Value} (h : stOk v) : ∃ d, Atom v d := by
  rcases h with rfl | ⟨t, rfl⟩ | ⟨t, rfl⟩
  · exact ⟨_, atom_none⟩
  · exact ⟨_, atom_int t (by decide) (by decide)⟩
  · exact ⟨_, atom_int t (by decide) (by decide)⟩
theorem atom_strF {v : Value} (h : stOk v) : ∃ d, Atom (strF v) d := by
  rcases h with rfl | ⟨t, rfl⟩ | ⟨t, rfl⟩
  · exact ⟨_, atom_none⟩
  · exact ⟨_, atom_bool true⟩
  · exact ⟨_, atom_int t (by decide) (by decide)⟩
theorem atom_cmF {dc : Int} {ne : Bool} {t : Tok} (h : dc = 0 ∨ dc = -1 ∨ dc = 1 ∨ dc = 2) : ∃ d, Atom (cmF dc ne t) d := by
  unfold cmF
  split
  · exact ⟨_, atom_none⟩
  · split
    · exact ⟨_, atom_int t (by omega) (by omega)⟩
    · exact ⟨_, atom_bool true⟩
noncomputable def lastD (is : List Int) : PyData := match is.getLast? with
  | none => .none
  | some x => .int x
theorem atom_last {is : List Int} {v : Value} (hb : ∀ x ∈ is, 0 ≤ x ∧ x ≤ 40) (h : lastV is v) : Atom v (lastD is) := by
  unfold lastV at h
  unfold lastD
  cases e : is.getLast? with
  | none => rw [e] at h; subst h; exact atom_none
  | some x =>
    rw [e] at h
    obtain ⟨t, rfl⟩ := h
    have hx := hb x (List.mem_of_getLast? e)
    exact atom_int t (by omega) hx.2
structure Dt (h₀ : Heap) (news : List (Addr × Obj)) (v : Value) (d : PyData) (k : Nat) : Prop where
  rd : ReadsVia h₀ news v d
  lay : d.canLay0 = true
  dep : d.depth ≤ k
  wt : d.weight ≤ 64 * 16 ^ k
  sh : d.intsShort 13 = true
  shw : d.showable = true
  nd : d.hasDict = false
inductive DtAll (h₀ : Heap) (news : List (Addr × Obj)) (k : Nat) : List Value → List PyData → Prop
  | nil : DtAll h₀ news k [] []
  | cons {v : Value} {d : PyData} {vs : List Value} {ds : List PyData} : Dt h₀ news v d k → DtAll h₀ news k vs ds → DtAll h₀ news k (v :: vs) (d :: ds)
theorem Atom.dt {h₀ : Heap} {news : List (Addr × Obj)} {v : Value} {d : PyData} {k : Nat} (a : Atom v d) : Dt h₀ news v d k :=
  ⟨fun h _ _ => ⟨[], a.rd h⟩, a.lay, by rw [a.dep]; exact Nat.zero_le _, Nat.le_trans a.wt (Nat.le_mul_of_pos_right _ (Nat.pow_pos (by decide))), a.sh, a.shw, a.nd⟩
theorem DtAll.facts {h₀ : Heap} {news : List (Addr × Obj)} {k : Nat} {vs : List Value} {ds : List PyData} (a : DtAll h₀ news k vs ds) :
    ReadsViaAll h₀ news vs ds ∧ PyData.canLayAll0 ds = true ∧ PyData.depthAll ds ≤ k ∧ PyData.weightAll ds ≤ vs.length * (64 * 16 ^ k + 2) ∧ PyData.intsShortAll 13 ds = true ∧ PyData.showableAll ds = true ∧ PyData.hasDictAll ds = false := by
  induction a with
  | nil => exact ⟨fun h _ _ => ⟨[], .nil⟩, rfl, Nat.zero_le _, Nat.zero_le _, rfl, rfl, rfl⟩
  | @cons v d vs ds x _ ih =>
    obtain ⟨i1, i2, i3, i4, i5, i6, i7⟩ := ih
    refine ⟨fun h hk hn => ?_, ?_, ?_, ?_, ?_, ?_, ?_⟩
    · obtain ⟨as, r⟩ := x.rd h hk hn
      obtain ⟨bs, rs⟩ := i1 h hk hn
      exact ⟨as ++ bs, .cons r rs⟩
    · simp only [PyData.canLayAll0, x.lay, i2, Bool.and_self]
    · simp only [PyData.depthAll]; exact Nat.max_le.mpr ⟨x.dep, i3⟩
    · have h9 := x.wt
      show d.weight + 1 + PyData.weightAll ds ≤ (vs.length + 1) * (64 * 16 ^ k + 2)
      rw [Nat.add_mul, Nat.one_mul]
      generalize vs.length * (64 * 16 ^ k + 2) = W at i4 ⊢
      omega
    · simp only [PyData.intsShortAll, x.sh, i5, Bool.and_self]
    · simp only [PyData.showableAll, x.shw, i6, Bool.and_self]
    · simp only [PyData.hasDictAll, x.nd, i7, Bool.or_self]
theorem wt_step (k n w : Nat) (hk : n ≤ 12) (h : w ≤ n * (64 * 16 ^ k + 2)) : w ≤ 64 * 16 ^ (k + 1) := by
  have h1 : n * (64 * 16 ^ k + 2) ≤ 12 * (64 * 16 ^ k + 2) := Nat.mul_le_mul_right _ hk
  have h2 : 1 ≤ 16 ^ k := Nat.pow_pos (by decide)
  rw [Nat.pow_succ]
  omega
theorem list_dt {h₀ : Heap} {news : List (Addr × Obj)} {k n : Nat} {a : Addr} {vs : List Value} {ds : List PyData} (hm : (a, listOf vs.toArray n) ∈ news) (x : DtAll h₀ news k vs ds) (hn : vs.length ≤ 12) : Dt h₀ news (.ref a) (.list ds) (k + 1) := by
  obtain ⟨i1, i2, i3, i4, i5, i6, i7⟩ := x.facts
  refine ⟨fun h hk hh => ?_, ?_, ?_, ?_, ?_, ?_, ?_⟩
  · obtain ⟨as, r⟩ := i1 h hk hh
    exact ⟨_, .list (hh _ hm) rfl rfl r⟩
  · simpa only [PyData.canLay0] using i2
  · simp only [PyData.depth]; omega
  · simp only [PyData.weight]; exact wt_step k _ _ hn i4
  · simpa only [PyData.intsShort] using i5
  · simpa only [PyData.showable] using i6
  · simpa only [PyData.hasDict] using i7
theorem tup_dt {h₀ : Heap} {news : List (Addr × Obj)} {k n : Nat} {a : Addr} {vs : List Value} {ds : List PyData} (hm : (a, tupOf vs.toArray n) ∈ news) (x : DtAll h₀ news k vs ds) (hn : vs.length ≤ 12) : Dt h₀ news (.ref a) (.tuple ds) (k + 1) := by
  obtain ⟨i1, i2, i3, i4, i5, i6, i7⟩ := x.facts
  refine ⟨fun h hk hh => ?_, ?_, ?_, ?_, ?_, ?_, ?_⟩
  · obtain ⟨as, r⟩ := i1 h hk hh
    exact ⟨_, .tuple (hh _ hm) rfl rfl r⟩
  · simpa only [PyData.canLay0] using i2
  · simp only [PyData.depth]; omega
  · simp only [PyData.weight]; exact wt_step k _ _ hn i4
  · simpa only [PyData.intsShort] using i5
  · simpa only [PyData.showable] using i6
  · simpa only [PyData.hasDict] using i7
theorem ints_dt {h₀ : Heap} {news : List (Addr × Obj)} {k : Nat} {ys : List Value} {is : List Int} (hI : IntsAre ys is) (hb : ∀ x ∈ is, 0 ≤ x ∧ x ≤ 40) : DtAll h₀ news k ys (is.map .int) := by
  induction hI with
  | nil => exact .nil
  | cons i t _ ih => exact .cons (atom_int t (by have := hb i (.head _); omega) (hb i (.head _)).2).dt (ih fun x hx => hb x (.tail _ hx))
section
variable {prog : Program} {w : World} {A : Around} {E : Value → Shared → Prop} {s : Shared} {h₀ : Heap} {L : Addr} {m : Str → Option Value} {news : List (Addr × Obj)} {v v' : Value} {d : PyData} {k k' : Nat} {Q : Value → Shared → Prop}
theorem Dt.shaped {k : Nat} (a : Dt h₀ news v d k) (hk : k ≤ 64) : SeqAt.shaped d = true := by
  show (d.canLay0 && decide (d.depth ≤ 64)) = true
  rw [a.lay, decide_eq_true (Nat.le_trans a.dep hk)]; rfl
theorem ne_dt (F : Fr h₀ L s.heap m) (N : News h₀ L s.heap news) (a : Dt h₀ news v d k) (b : Dt h₀ news v' d k') (hk : k ≤ 64) (hk' : k' ≤ 64) (hu : A.units + 64 < cLine) (h : Q (.bool false) s) :
    wpAny (model prog w) A (compareOp .NotEq v v') Q E s := by
  obtain ⟨as, ra⟩ := a.rd.at F N
  obtain ⟨bs, rb⟩ := b.rd.at F N
  refine ne_dataH ra rb (a.shaped hk) (b.shaped hk') hu ?_
  rw [SeqAt.eqv_refl d a.lay]; exact h
theorem eq_dt (F : Fr h₀ L s.heap m) (N : News h₀ L s.heap news) (a : Dt h₀ news v d k) (b : Dt h₀ news v' d k') (hk : k ≤ 64) (hk' : k' ≤ 64) (hu : A.units + 64 < cLine) (h : Q (.bool true) s) :
    wpAny (model prog w) A (compareOp .Eq v v') Q E s := by
  obtain ⟨as, ra⟩ := a.rd.at F N
  obtain ⟨bs, rb⟩ := b.rd.at F N
  refine eq_dataH ra rb (a.shaped hk) (b.shaped hk') hu ?_
  rw [SeqAt.eqv_refl d a.lay]; exact h
theorem repr_dt (F : Fr h₀ L s.heap m) (N : News h₀ L s.heap news) (a : Dt h₀ news v d k) (hd : isDisplay d = true) (hk : k ≤ 3) (hg : A.guards = some []) (hu : A.units + 65 < cLine)
    (hQ : ∀ h' u tk, Fr h₀ L h' m → News h₀ L h' news → Q (.str d.shown u) { s with heap := h', toks := tk }) : wpAny (model prog w) A (call (.builtin "repr") [v]) Q E s := by
  have hdp := a.dep
  refine repr_via a.rd F N a.shw a.nd hd hg (by omega) hQ (PyData.shown_fits_of_layable0 (B := 13) (by decide) (by decide) ?_ a.sh)
  show (d.canLay0 && decide (d.depth ≤ 64) && decide (d.weight ≤ 2 ^ 20)) = true
  have h1 : d.weight ≤ 2 ^ 20 := by
    refine Nat.le_trans a.wt ?_
    have : 16 ^ k ≤ 16 ^ 3 := Nat.pow_le_pow_right (by decide) hk
    omega
  rw [a.lay, decide_eq_true (by omega : d.depth ≤ 64), decide_eq_true h1]; rfl
end
end
section
-- At
local macro_rules | `(tactic| walk_at "pad") => `(tactic| fail)
theorem int_eq {x y : Int} {t : Tok} (h : x = y) : ∃ t', Value.int x t = Value.int y t' := ⟨t, h ▸ rfl⟩
theorem getD_add (row : List Int) (k : Nat) (h : k < row.length) : (row.map fun x => 97 + x).getD k 0 = 97 + row.getD k 0 := by
  rw [List.getD_eq_getElem?_getD, List.getD_eq_getElem?_getD, List.getElem?_map, List.getElem?_eq_getElem h]
  rfl
local macro_rules | `(tactic| walk_at "getMethod ref") => `(tactic| (k_here; (with_reducible show wpAny _ _ (getMethod (Value.ref _) (Str.ofString "get") _) _ _ _); k_dflt (refine kdg_method (knd := PySem.intKind _ _) (by k_asm) (by k_mem) (by k_asm) ?_)))
local macro_rules | `(tactic| walk_at "call builtin:dict.get") => `(tactic| (k_here; k_dflt (refine kdg_get2 (knd := PySem.intKind _ _) (by k_asm) (by k_mem) (by k_asm) (by k_asm) (intKind_is _ _ _ _) (some _) (by assumption) ?_); (try dsimp only [Option.getD])))
noncomputable abbrev viewD (w : World) (cds : Addr) (bs : Int) (u1 u2 t : Tok) : Obj :=
  dictOf [⟨PyData.keyHash w.params (Str.ofString "codes"), .str (Str.ofString "codes") u1, .ref cds⟩, ⟨PyData.keyHash w.params (Str.ofString "place"), .str (Str.ofString "place") u2, .int bs t⟩] 2
theorem kind_at_no : ∀ c ∈ kindsL, (sgn c == Str.ofString "@") = false := by decide +kernel
set_option maxRecDepth 100000 in
set_option maxHeartbeats 8000000 in
theorem code_ok {w : World} {mean : ExcName → Option Value} {mg mb : Str → Option Value} {vw vd cds : Addr} {bs p : Int} {cvs : List Value} {row : List Int} {e : Nat} {u1 u2 t tk : Tok} {news : List (Addr × Obj)}
    (h1 : (vw, instObj 338 vd) ∈ news) (h2 : (vd, viewD w cds bs u1 u2 t) ∈ news) (h3 : (cds, listOf cvs.toArray e) ∈ news) (hI : IntsAre cvs (row.map fun x => 97 + x)) (hr : row.length ≤ 60) (hb0 : 0 ≤ bs) (hb1 : bs < 100) (hp0 : -100 ≤ p) (hp1 : p < 1000) :
    Ctr w mean mg mb 1 335 [.ref vw, .int p tk] news (fun r news' => (∃ t, r = .int (if bs ≤ p ∧ p < bs + row.length then 97 + row.getD (p - bs).toNat 0 else -1) t) ∧ news' = news) := by
  w_on
  unfold Ctr
  k_fill
  intro dp un gd cn cs a ccd cl outer A₀ base h₀ L m s Q E B F X N T hk hd hu hret
  have N2 : News h₀ L s.heap ((cds, listOf cvs.toArray e) :: news) := news_sub N (List.forall_mem_cons.mpr ⟨h3, fun _ h => h⟩)
  clear N
  refine wpAny_call ?_
  k_dflt ktr_enter
  w_strict (
    k_steps
    all_goals (refine hret _ _ _ _ (by k_asm) (news_sub (by k_asm) fun p hp => .tail _ hp) ⟨int_eq ?_, rfl⟩)
    all_goals (simp only [List.length_map] at *)
    · rw [if_pos ⟨by assumption, by assumption⟩]
      exact getD_add row _ (by omega)
    · rw [if_neg (by omega)]
    · rw [if_neg (by omega)])
set_option maxRecDepth 100000 in
set_option maxHeartbeats 8000000 in
theorem own_ok {w : World} {mean : ExcName → Option Value} {mg mb : Str → Option Value} {tb td rw sx dx : Addr} {code : Int} {c : Nat} {l : List Nat} {ro : Obj} {kvs : List (Int × Value)} {u1 u2 v1 v2 v3 t1 t3 tk : Tok} {news : List (Addr × Obj)}
    (h1 : (tb, instObj 167 td) ∈ news) (h2 : (td, tabD w rw u1 u2) ∈ news) (h3 : (rw, ro) ∈ news) (hro : Obj.IsDictOf (intKind Challenge.rw_ok0055_01.row.prog w) ro kvs) (hlo : (rw == sysModules) = false)
    (h4 : (sx, instObj 86 dx) ∈ news) (h5 : (dx, synD w c l v1 v2 v3 t1 t3) ∈ news) (hc : c ∈ kindsL) (hget : valueAt kvs code = some (.ref sx)) :
    Ctr w mean mg mb 1 143 [.ref tb, .int code tk] news (fun r news' => r = .ref sx ∧ news' = news) := by
  w_on
  unfold Ctr
  k_fill
  intro dp un gd cn cs a ccd cl outer A₀ base h₀ L m s Q E B F X N T hk hd hu hret
  have hcn := kind_at_no c hc
  refine wpAny_call ?_
  k_dflt ktr_enter
  w_strict (
    k_steps
    exact hret _ _ _ _ (by k_asm) (by k_asm) ⟨rfl, rfl⟩)
local macro_rules | `(tactic| walk_at "call ref") => `(tactic| (k_here; (with_reducible show wpAny _ _ (call (Value.ref 143) _) _ _ _); k_dflt (refine' Ctr.useR (own_ok ?h1 ?h2 ?h3 ?hro ?hlo ?h4 ?h5 ?hc ?hg) ?B ?F ?X ?N ?T ?hk ?hd ?hu ?_; (case B => k_asm); (case F => k_asm); (case X => k_asm); (case N => k_asm); (case T => k_asm); (case h1 => k_mem); (case h2 => k_mem); (case h3 => k_mem); (case hg => assumption); (case h4 => k_mem); (case h5 => k_mem); (case hro => assumption); (case hlo => assumption); (case hc => assumption); (case hk => first | exact rfl | assumption); (case hd => ktr_room); (case hu => ktr_units); k_whole; intro r9 h' tk' F' N' p9; subst p9; (try dsimp only); (try k_sweep); (try k_fold))))
local macro_rules | `(tactic| walk_at "exec While Compare cons nil") => `(tactic| (k_here; k_dflt (refine whl_start 100 ?_)))
set_option maxRecDepth 100000 in
set_option maxHeartbeats 8000000 in
theorem at_ok {w : World} {mean : ExcName → Option Value} {mg mb : Str → Option Value} {tb td rw sx dx : Addr} {code : Int} {c : Nat} {l : List Nat} {ro : Obj} {kvs : List (Int × Value)} {u1 u2 v1 v2 v3 t1 t3 tk : Tok} {news : List (Addr × Obj)}
    (h1 : (tb, instObj 167 td) ∈ news) (h2 : (td, tabD w rw u1 u2) ∈ news) (h3 : (rw, ro) ∈ news) (hro : Obj.IsDictOf (intKind Challenge.rw_ok0055_01.row.prog w) ro kvs) (hlo : (rw == sysModules) = false)
    (h4 : (sx, instObj 86 dx) ∈ news) (h5 : (dx, synD w c l v1 v2 v3 t1 t3) ∈ news) (hc : c ∈ kindsL) (hget : valueAt kvs code = some (.ref sx)) :
    Ctr w mean mg mb 2 150 [.ref tb, .int code tk] news (fun r news' => r = .ref sx ∧ news' = news) := by
  w_on
  unfold Ctr
  k_fill
  intro dp un gd cn cs a ccd cl outer A₀ base h₀ L m s Q E B F X N T hk hd hu hret
  refine wpAny_call ?_
  k_dflt ktr_enter
  w_strict (
    k_steps
    exact hret _ _ _ _ (by k_asm) (by k_asm) ⟨rfl, rfl⟩)
end
section
-- SynAt
theorem code_in {w : World} {mean : ExcName → Option Value} {mg mb : Str → Option Value} {vw vd cds : Addr} {bs p : Int} {cvs : List Value} {row : List Int} {e : Nat} {a1 a2 a3 tk : Tok} {news : List (Addr × Obj)} (h1 : (vw, instObj 338 vd) ∈ news) (h2 : (vd, viewD w cds bs a1 a2 a3) ∈ news) (h3 : (cds, listOf cvs.toArray e) ∈ news) (hI : IntsAre cvs (row.map fun x => 97 + x)) (hr : row.length ≤ 60) (hb0 : 0 ≤ bs) (hb1 : bs < 100) (hp0 : -100 ≤ p) (hp1 : p < 1000) (hq : bs ≤ p ∧ p < bs + row.length) :
    Ctr w mean mg mb 1 335 [.ref vw, .int p tk] news (fun r news' => (∃ t, r = .int (97 + row.getD (p - bs).toNat 0) t) ∧ news' = news) :=
  (code_ok h1 h2 h3 hI hr hb0 hb1 hp0 hp1).mono fun r n k => by rw [if_pos hq] at k; exact k
theorem code_out {w : World} {mean : ExcName → Option Value} {mg mb : Str → Option Value} {vw vd cds : Addr} {bs p : Int} {cvs : List Value} {row : List Int} {e : Nat} {a1 a2 a3 tk : Tok} {news : List (Addr × Obj)} (h1 : (vw, instObj 338 vd) ∈ news) (h2 : (vd, viewD w cds bs a1 a2 a3) ∈ news) (h3 : (cds, listOf cvs.toArray e) ∈ news) (hI : IntsAre cvs (row.map fun x => 97 + x)) (hr : row.length ≤ 60) (hb0 : 0 ≤ bs) (hb1 : bs < 100) (hp0 : -100 ≤ p) (hp1 : p < 1000) (hq : ¬ (bs ≤ p ∧ p < bs + row.length)) :
    Ctr w mean mg mb 1 335 [.ref vw, .int p tk] news (fun r news' => (∃ t, r = .int (-1) t) ∧ news' = news) :=
  (code_ok h1 h2 h3 hI hr hb0 hb1 hp0 hp1).mono fun r n k => by rw [if_neg hq] at k; exact k
local macro_rules | `(tactic| walk_at "call ref") => `(tactic| (k_here; (with_reducible show wpAny _ _ (call (Value.ref 335) _) _ _ _); k_dflt (refine' Ctr.useR (code_in ?h1 ?h2 ?h3 ?hI ?hr ?hb0 ?hb1 ?hp0 ?hp1 ?hq) ?B ?F ?X ?N ?T ?hk ?hd ?hu ?_; (case B => k_asm); (case F => k_asm); (case X => k_asm); (case N => k_asm); (case T => k_asm); (case h1 => k_mem); (case h2 => k_mem); (case h3 => k_mem); (case hI => assumption); (case hr => assumption); (case hb0 => assumption); (case hb1 => assumption); (case hp0 => assumption); (case hp1 => assumption); (case hq => assumption); (case hk => first | exact rfl | assumption); (case hd => ktr_room); (case hu => ktr_units); k_whole; intro r9 h' tk' F' N' p9; (refine Exists.elim p9 ?_; clear p9; intro t9 p9); subst p9; (try dsimp only); (try k_sweep); (try k_fold))))
local macro_rules | `(tactic| walk_at "call ref") => `(tactic| (k_here; (with_reducible show wpAny _ _ (call (Value.ref 335) _) _ _ _); k_dflt (refine' Ctr.useR (code_out ?h1 ?h2 ?h3 ?hI ?hr ?hb0 ?hb1 ?hp0 ?hp1 ?hq) ?B ?F ?X ?N ?T ?hk ?hd ?hu ?_; (case B => k_asm); (case F => k_asm); (case X => k_asm); (case N => k_asm); (case T => k_asm); (case h1 => k_mem); (case h2 => k_mem); (case h3 => k_mem); (case hI => assumption); (case hr => assumption); (case hb0 => assumption); (case hb1 => assumption); (case hp0 => assumption); (case hp1 => assumption); (case hq => assumption); (case hk => first | exact rfl | assumption); (case hd => ktr_room); (case hu => ktr_units); k_whole; intro r9 h' tk' F' N' p9; (refine Exists.elim p9 ?_; clear p9; intro t9 p9); subst p9; (try dsimp only); (try k_sweep); (try k_fold))))
local macro_rules | `(tactic| walk_at "call ref") => `(tactic| (k_here; (with_reducible show wpAny _ _ (call (Value.ref 150) _) _ _ _); k_dflt (refine' Ctr.useR (at_ok ?g1 ?g2 ?g3 ?hro ?hlo ?g4 ?g5 ?hc ?hg) ?B ?F ?X ?N ?T ?hk ?hd ?hu ?_; (case B => k_asm); (case F => k_asm); (case X => k_asm); (case N => k_asm); (case T => k_asm); (case g1 => k_mem); (case g2 => k_mem); (case g3 => k_mem); (case hg => assumption); (case g4 => k_mem); (case g5 => k_mem); (case hro => assumption); (case hlo => assumption); (case hc => assumption); (case hk => first | exact rfl | assumption); (case hd => ktr_room); (case hu => ktr_units); k_whole; intro r9 h' tk' F' N' p9; subst p9; (try dsimp only); (try k_sweep); (try k_fold))))
set_option maxRecDepth 100000 in
set_option maxHeartbeats 8000000 in
theorem syn_in {w : World} {mean : ExcName → Option Value} {mg mb : Str → Option Value} {vw vd cds : Addr} {bs p : Int} {cvs : List Value} {row : List Int} {e : Nat} {a1 a2 a3 tk : Tok} {tb td rw sx dx : Addr} {c : Nat} {l : List Nat} {ro : Obj} {kvs : List (Int × Value)} {u1 u2 v1 v2 v3 t1 t3 : Tok} {news : List (Addr × Obj)} (h1 : (vw, instObj 338 vd) ∈ news) (h2 : (vd, viewD w cds bs a1 a2 a3) ∈ news) (h3 : (cds, listOf cvs.toArray e) ∈ news) (hI : IntsAre cvs (row.map fun x => 97 + x)) (hr : row.length ≤ 60) (hb0 : 0 ≤ bs) (hb1 : bs < 100) (hp0 : -100 ≤ p) (hp1 : p < 1000)
    (g1 : (tb, instObj 167 td) ∈ news) (g2 : (td, tabD w rw u1 u2) ∈ news) (g3 : (rw, ro) ∈ news) (hro : Obj.IsDictOf (intKind Challenge.rw_ok0055_01.row.prog w) ro kvs) (hlo : (rw == sysModules) = false)
    (g4 : (sx, instObj 86 dx) ∈ news) (g5 : (dx, synD w c l v1 v2 v3 t1 t3) ∈ news) (hc : c ∈ kindsL) (hq : bs ≤ p ∧ p < bs + row.length) (hx : 0 ≤ row.getD (p - bs).toNat 0) (hget : valueAt kvs (97 + row.getD (p - bs).toNat 0) = some (.ref sx)) :
    Ctr w mean mg mb 3 199 [.ref vw, .ref tb, .int p tk] news (fun r news' => r = .ref sx ∧ news' = news) := by
  w_on
  unfold Ctr
  k_fill
  intro dp un gd cn cs a ccd cl outer A₀ base h₀ L m s Q E B F X N T hk hd hu hret
  have hcn : ¬ (97 + row.getD (p - bs).toNat 0 < 0) := by omega
  refine wpAny_call ?_
  k_dflt ktr_enter
  w_strict (
    k_steps
    exact hret _ _ _ _ (by k_asm) (by k_asm) ⟨rfl, rfl⟩)
set_option maxRecDepth 100000 in
set_option maxHeartbeats 8000000 in
theorem syn_out {w : World} {mean : ExcName → Option Value} {mg mb : Str → Option Value} {vw vd cds : Addr} {bs p : Int} {cvs : List Value} {row : List Int} {e : Nat} {a1 a2 a3 tk : Tok} {tb : Addr} {news : List (Addr × Obj)} (h1 : (vw, instObj 338 vd) ∈ news) (h2 : (vd, viewD w cds bs a1 a2 a3) ∈ news) (h3 : (cds, listOf cvs.toArray e) ∈ news) (hI : IntsAre cvs (row.map fun x => 97 + x)) (hr : row.length ≤ 60) (hb0 : 0 ≤ bs) (hb1 : bs < 100) (hp0 : -100 ≤ p) (hp1 : p < 1000) (hq : ¬ (bs ≤ p ∧ p < bs + row.length)) :
    Ctr w mean mg mb 3 199 [.ref vw, .ref tb, .int p tk] news (fun r news' => r = .none ∧ news' = news) := by
  w_on
  unfold Ctr
  k_fill
  intro dp un gd cn cs a ccd cl outer A₀ base h₀ L m s Q E B F X N T hk hd hu hret
  refine wpAny_call ?_
  k_dflt ktr_enter
  w_strict (
    k_steps
    exact hret _ _ _ _ (by k_asm) (by k_asm) ⟨rfl, rfl⟩)
end
section
-- MkA
noncomputable abbrev markD (w : World) (n : Int) (st : Str) (ne fe : Bool) (u1 u2 u3 u4 t1 t2 : Tok) : Obj :=
  dictOf [⟨PyData.keyHash w.params (Str.ofString "length"), .str (Str.ofString "length") u1, .int n t1⟩, ⟨PyData.keyHash w.params (Str.ofString "style"), .str (Str.ofString "style") u2, .str st t2⟩, ⟨PyData.keyHash w.params (Str.ofString "nests"), .str (Str.ofString "nests") u3, .bool ne⟩, ⟨PyData.keyHash w.params (Str.ofString "is_fence"), .str (Str.ofString "is_fence") u4, .bool fe⟩] 4
noncomputable def MarkAt (w : World) (news : List (Addr × Obj)) (v : Value) : Option (Int × Str × Bool × Bool) → Prop
  | none => v = .none
  | some (n, st, ne, fe) => ∃ mk dm u1 u2 u3 u4 t1 t2, v = .ref mk ∧ (mk, instObj 188 dm) ∈ news ∧ (dm, markD w n st ne fe u1 u2 u3 u4 t1 t2) ∈ news
noncomputable def Ext (news news' : List (Addr × Obj)) : Prop := ∃ new, news' = new ++ news ∧ ∀ p ∈ new, ∀ q ∈ news, q.1 < p.1
noncomputable def oneF (kd c : Nat) (l : List Nat) : Option (Int × Str × Bool × Bool) :=
  if (c == kd) = true then some (1, styl (l.contains 98) (l.contains 99), l.contains 110, false) else if (c == 33) = true then some (1, Str.ofString "", false, true) else none
noncomputable def markF (f1 f2 kd : Nat) (flip : Bool) : Option (Nat × List Nat) → Option (Nat × List Nat) → Option (Int × Str × Bool × Bool)
  | none, _ => none
  | some (c, l), none => oneF kd c l
  | some (c, l), some (_, l') => if (l.contains f1 && l'.contains f2) = true then some (2, styl (if flip = true then l'.contains 98 else l.contains 98) (if flip = true then l'.contains 99 || l.contains 99 else l.contains 99 || l'.contains 99), l.contains 110 || l'.contains 110, false) else oneF kd c l
inductive SynAt (w : World) (news : List (Addr × Obj)) (kvs : List (Int × Value)) (row : List Int) (bs p : Int) : Option (Nat × List Nat) → Prop
  | out : ¬ (bs ≤ p ∧ p < bs + row.length) → SynAt w news kvs row bs p none
  | inn {sx dx : Addr} {c : Nat} {l : List Nat} {v1 v2 v3 t1 t3 : Tok} : (bs ≤ p ∧ p < bs + row.length) → 0 ≤ row.getD (p - bs).toNat 0 → valueAt kvs (97 + row.getD (p - bs).toNat 0) = some (.ref sx) →
      (sx, instObj 86 dx) ∈ news → (dx, synD w c l v1 v2 v3 t1 t3) ∈ news → c ∈ kindsL → SynAt w news kvs row bs p (some (c, l))
theorem ext2 {x d : Addr} {ox od : Obj} {news : List (Addr × Obj)} (h : AllLt d news) (k : d < x) : Ext news ((x, ox) :: (d, od) :: news) :=
  ⟨[(x, ox), (d, od)], rfl, List.forall_mem_cons.mpr ⟨fun q hq => Nat.lt_trans (ktn_ltOf h q hq) k, List.forall_mem_cons.mpr ⟨fun q hq => ktn_ltOf h q hq, fun _ h => nomatch h⟩⟩⟩
theorem sgn_beq (a b : Nat) : (sgn a == sgn b) = (a == b) := by
  by_cases h : a = b
  · subst h; simp
  · rw [beq_eq_false_iff_ne.mpr h, beq_eq_false_iff_ne]
    intro h'; apply h
    have := congrArg (fun x : Str => x.cps.toList) h'
    simpa [sgn] using this
theorem eq_lt (c : Nat) : (sgn c == Str.ofString "<") = (c == 60) := by rw [show Str.ofString "<" = sgn 60 from by decide +kernel, sgn_beq]
theorem eq_gt (c : Nat) : (sgn c == Str.ofString ">") = (c == 62) := by rw [show Str.ofString ">" = sgn 62 from by decide +kernel, sgn_beq]
theorem eq_bang (c : Nat) : (sgn c == Str.ofString "!") = (c == 33) := by rw [show Str.ofString "!" = sgn 33 from by decide +kernel, sgn_beq]
inductive VAt (w : World) (news : List (Addr × Obj)) : Value → Option (Nat × List Nat) → Prop
  | no : VAt w news .none none
  | yes {sx dx : Addr} {c : Nat} {l : List Nat} {v1 v2 v3 t1 t3 : Tok} : (sx, instObj 86 dx) ∈ news → (dx, synD w c l v1 v2 v3 t1 t3) ∈ news → c ∈ kindsL → VAt w news (.ref sx) (some (c, l))
theorem syn_any {w : World} {mean : ExcName → Option Value} {mg mb : Str → Option Value} {vw vd cds : Addr} {bs p : Int} {cvs : List Value} {row : List Int} {e : Nat} {a1 a2 a3 tk : Tok} {tb td rw : Addr} {ro : Obj} {kvs : List (Int × Value)} {u1 u2 : Tok} {o1 : Option (Nat × List Nat)} {news : List (Addr × Obj)} (h1 : (vw, instObj 338 vd) ∈ news) (h2 : (vd, viewD w cds bs a1 a2 a3) ∈ news) (h3 : (cds, listOf cvs.toArray e) ∈ news) (hI : IntsAre cvs (row.map fun x => 97 + x)) (hr : row.length ≤ 60) (hb0 : 0 ≤ bs) (hb1 : bs < 100) (hp0 : -100 ≤ p) (hp1 : p < 1000)
    (g1 : (tb, instObj 167 td) ∈ news) (g2 : (td, tabD w rw u1 u2) ∈ news) (g3 : (rw, ro) ∈ news) (hro : Obj.IsDictOf (intKind Challenge.rw_ok0055_01.row.prog w) ro kvs) (hlo : (rw == sysModules) = false) (s1 : SynAt w news kvs row bs p o1) :
    Ctr w mean mg mb 3 199 [.ref vw, .ref tb, .int p tk] news (fun r news' => VAt w news r o1 ∧ news' = news) := by
  cases s1 with
  | out h => exact (syn_out h1 h2 h3 hI hr hb0 hb1 hp0 hp1 h).mono fun r n k => ⟨by rw [k.1]; exact .no, k.2⟩
  | inn a b c d e f => exact (syn_in h1 h2 h3 hI hr hb0 hb1 hp0 hp1 g1 g2 g3 hro hlo d e f a b c).mono fun r n k => ⟨by rw [k.1]; exact .yes d e f, k.2⟩
theorem merge_b {prog : Program} {w : World} {A : Around} {E : Value → Shared → Prop} {s : Shared} {h₀ : Heap} {L : Addr} {m : Str → Option Value} {news : List (Addr × Obj)} {t : Sem Bool} {Q : Bool → Shared → Prop} (b : Bool) (_F : Fr h₀ L s.heap m) (_N : News h₀ L s.heap news)
    (h : wpAny (model prog w) A t (fun v s' => v = b ∧ ∃ h' tk, s' = { s with heap := h', toks := tk } ∧ Fr h₀ L h' m ∧ News h₀ L h' news) E s) (hQ : ∀ h' tk, Fr h₀ L h' m → News h₀ L h' news → Q b { s with heap := h', toks := tk }) : wpAny (model prog w) A t Q E s :=
  wpAny_mono h (fun v s' hp => by obtain ⟨rfl, h', tk, rfl, F', N'⟩ := hp; exact hQ h' tk F' N') fun _ _ e => e
theorem merge_v {prog : Program} {w : World} {A : Around} {E : Value → Shared → Prop} {s : Shared} {h₀ : Heap} {L : Addr} {m : Str → Option Value} {news : List (Addr × Obj)} {t : Sem Value} {Q : Value → Shared → Prop} (b : Value) (_F : Fr h₀ L s.heap m) (_N : News h₀ L s.heap news)
    (h : wpAny (model prog w) A t (fun v s' => v = b ∧ ∃ h' tk, s' = { s with heap := h', toks := tk } ∧ Fr h₀ L h' m ∧ News h₀ L h' news) E s) (hQ : ∀ h' tk, Fr h₀ L h' m → News h₀ L h' news → Q b { s with heap := h', toks := tk }) : wpAny (model prog w) A t Q E s :=
  wpAny_mono h (fun v s' hp => by obtain ⟨rfl, h', tk, rfl, F', N'⟩ := hp; exact hQ h' tk F' N') fun _ _ e => e
noncomputable def condF (f1 f2 : Nat) (l : List Nat) : Option (Nat × List Nat) → Bool
  | none => false
  | some (_, l') => l.contains f1 && l'.contains f2
theorem markF_no {f1 f2 kd c : Nat} {fl : Bool} {l : List Nat} {o : Option (Nat × List Nat)} (h : condF f1 f2 l o = false) : markF f1 f2 kd fl (some (c, l)) o = oneF kd c l := by
  rcases o with _ | ⟨c', l'⟩
  · rfl
  · have h' : (l.contains f1 && l'.contains f2) = false := h
    simp only [markF, h', Bool.false_eq_true, if_false]
theorem markF_yes {f1 f2 kd c c' : Nat} {fl : Bool} {l l' : List Nat} (h : condF f1 f2 l (some (c', l')) = true) : markF f1 f2 kd fl (some (c, l)) (some (c', l')) = some (2, styl (if fl = true then l'.contains 98 else l.contains 98) (if fl = true then l'.contains 99 || l.contains 99 else l.contains 99 || l'.contains 99), l.contains 110 || l'.contains 110, false) := if_pos h
theorem oneF_yes {kd c : Nat} {l : List Nat} (h : (c == kd) = true) : oneF kd c l = some (1, styl (l.contains 98) (l.contains 99), l.contains 110, false) := if_pos h
theorem oneF_bang {kd c : Nat} {l : List Nat} (h : (c == kd) = false) (h2 : (c == 33) = true) : oneF kd c l = some (1, Str.ofString "", false, true) := by simp only [oneF, h, h2, Bool.false_eq_true, if_false, if_true]
theorem oneF_no {kd c : Nat} {l : List Nat} (h : (c == kd) = false) (h2 : (c == 33) = false) : oneF kd c l = none := by simp only [oneF, h, h2, Bool.false_eq_true, if_false]
end
section
-- Mark
local macro_rules | `(tactic| walk_at "call ref") => `(tactic| (k_here; (with_reducible show wpAny _ _ (call (Value.ref 62) _) _ _ _); k_dflt (refine' Ctr.useR (has_ok ?hx ?h1 ?h2) ?B ?F ?X ?N ?T ?hk ?hd ?hu ?_; (case B => k_asm); (case F => k_asm); (case X => k_asm); (case N => k_asm); (case T => k_asm); (case h1 => k_mem); (case h2 => k_mem); (case hx => first | exact sgn1 | exact sgn2 | exact sgn3 | exact sgn4 | exact sgnb | exact sgnc | exact sgnn); (case hk => first | exact rfl | assumption); (case hd => ktr_room); (case hu => ktr_units); k_whole; intro r9 h' tk' F' N' p9; subst p9; (try dsimp only); (try k_sweep); (try k_fold))))
local macro_rules | `(tactic| walk_at "call ref") => `(tactic| (k_here; (with_reducible show wpAny _ _ (call (Value.ref 83) _) _ _ _); k_dflt (refine' Ctr.useR (style_ok ?h1 ?h2) ?B ?F ?X ?N ?T ?hk ?hd ?hu ?_; (case B => k_asm); (case F => k_asm); (case X => k_asm); (case N => k_asm); (case T => k_asm); (case h1 => k_mem); (case h2 => k_mem); (case hk => first | exact rfl | assumption); (case hd => ktr_room); (case hu => ktr_units); k_whole; intro r9 h' tk' F' N' p9; (refine Exists.elim p9 ?_; clear p9; intro t9 p9); subst p9; (try dsimp only); (try k_sweep); (try k_fold))))
local macro_rules | `(tactic| walk_at "call ref") => `(tactic| (k_here; (with_reducible show wpAny _ _ (call (Value.ref 206) _) _ _ _); k_dflt (refine' Ctr.useR (pair_ok ?h1 ?h2 ?h3 ?h4) ?B ?F ?X ?N ?T ?hk ?hd ?hu ?_; (case B => k_asm); (case F => k_asm); (case X => k_asm); (case N => k_asm); (case T => k_asm); (case h1 => k_mem); (case h2 => k_mem); (case h3 => k_mem); (case h4 => k_mem); (case hk => first | exact rfl | assumption); (case hd => ktr_room); (case hu => ktr_units); k_whole; intro r9 h' tk' F' N' p9; (refine Exists.elim p9 ?_; clear p9; intro t9 p9); subst p9; (try dsimp only); (try k_sweep); (try k_fold))))
local macro_rules | `(tactic| walk_at "call ref") => `(tactic| (k_here; (with_reducible show wpAny _ _ (call (Value.ref 199) _) _ _ _); k_dflt (refine' Ctr.useR (syn_any ?h1 ?h2 ?h3 ?hI ?hr ?hb0 ?hb1 ?hp0 ?hp1 ?g1 ?g2 ?g3 ?hro ?hlo ?s) ?B ?F ?X ?N ?T ?hk ?hd ?hu ?_; (case B => k_asm); (case F => k_asm); (case X => k_asm); (case N => k_asm); (case T => k_asm); (case s => assumption); (case h1 => assumption); (case h2 => assumption); (case h3 => assumption); (case hI => assumption); (case hr => assumption); (case hb0 => assumption); (case hb1 => assumption); (case hp0 => omega); (case hp1 => omega); (case g1 => assumption); (case g2 => assumption); (case g3 => assumption); (case hro => assumption); (case hlo => assumption); (case hk => first | exact rfl | assumption); (case hd => ktr_room); (case hu => ktr_units); k_whole; intro r9 h' tk' F' N' p9; (try dsimp only); (try k_sweep); (try k_fold))))
set_option maxRecDepth 100000 in
set_option maxHeartbeats 8000000 in
theorem begin_ok {w : World} {mean : ExcName → Option Value} {mg mb : Str → Option Value} {vw vd cds : Addr} {bs p : Int} {cvs : List Value} {row : List Int} {e : Nat} {a1 a2 a3 tk : Tok} {tb td rw : Addr} {ro : Obj} {kvs : List (Int × Value)} {u1 u2 : Tok} {o1 o2 : Option (Nat × List Nat)} {news : List (Addr × Obj)} (h1 : (vw, instObj 338 vd) ∈ news) (h2 : (vd, viewD w cds bs a1 a2 a3) ∈ news) (h3 : (cds, listOf cvs.toArray e) ∈ news) (hI : IntsAre cvs (row.map fun x => 97 + x)) (hr : row.length ≤ 60) (hb0 : 0 ≤ bs) (hb1 : bs < 100) (hp0 : -50 ≤ p) (hp1 : p < 900)
    (g1 : (tb, instObj 167 td) ∈ news) (g2 : (td, tabD w rw u1 u2) ∈ news) (g3 : (rw, ro) ∈ news) (hro : Obj.IsDictOf (intKind Challenge.rw_ok0055_01.row.prog w) ro kvs) (hlo : (rw == sysModules) = false) (s1 : SynAt w news kvs row bs p o1) (s2 : SynAt w news kvs row bs (p + 1) o2) :
    Ctr w mean mg mb 6 213 [.ref vw, .ref tb, .int p tk] news (fun r news' => Ext news news' ∧ MarkAt w news' r (markF 49 50 60 true o1 o2)) := by
  w_on
  unfold Ctr
  k_fill
  intro dp un gd cn cs a ccd cl outer A₀ base h₀ L m s Q E B F X N T hk hd hu hret
  refine wpAny_call ?_
  k_dflt ktr_enter
  w_strict (
    iterate 60 (first | (with_reducible show wpAny _ _ (exec (Stmt.If _ _ _ _) _) _ _ _) | (k_unfold; (try dsimp only)) | walk1 | (dsimp only; walk1))
    rename VAt _ _ _ o2 => w2
    rename VAt _ _ _ o1 => w1
    cases w1 with
    | no =>
      k_steps
      exact hret _ _ _ _ (by k_asm) (news_sub (by k_asm) fun p hp => .tail _ hp) ⟨⟨[], rfl, fun _ h => nomatch h⟩, rfl⟩
    | @yes sx dx c l v1 v2 v3 t1 t3 m1 m2 m3 =>
      walk1
      iterate 30 (first | (with_reducible show wpAny _ _ (exec (Stmt.If _ _ _ _) _) _ _ _) | (k_unfold; (try dsimp only)) | walk1 | (dsimp only; walk1))
      walk1
      rename News _ _ _ _ => N8
      refine merge_b (condF 49 50 l o2) (by k_asm) (news_sub (news := news) N8 fun p hp => .tail _ hp) ?_ ?_
      · have N7 := news_sub (news := news) N8 fun p hp => .tail _ hp
        clear N8
        rcases w2 with _ | ⟨m4, m5, m6⟩
        all_goals (
          k_steps
          all_goals (first | k_asm | (simp only [condF, *, Bool.and_true, Bool.and_false, Bool.true_and, Bool.false_and]; done)))
      clear N8
      intro h9 tk9 F9 N9
      generalize hb : condF 49 50 l o2 = b9
      cases b9
      · k_steps
        all_goals (first
          | (refine hret _ _ _ _ (by k_asm) (by k_asm) ⟨⟨[], rfl, fun _ h => nomatch h⟩, ?_⟩
             rw [markF_no hb, oneF_no (by rw [← eq_lt]; assumption) (by rw [← eq_bang]; assumption)]
             exact rfl)
          | (rename (∀ p ∈ news, _ < _) => la9
             rename (_ < _) => lb9
             refine hret _ _ _ _ (by k_asm) (by k_asm) ⟨ext2 (allLt_of la9) lb9, ?_⟩
             first
               | rw [markF_no hb, oneF_yes (by rw [← eq_lt]; assumption)]
               | rw [markF_no hb, oneF_bang (by rw [← eq_lt]; assumption) (by rw [← eq_bang]; assumption)]
             exact ⟨_, _, _, _, _, _, _, _, rfl, .head _, .tail _ (.head _)⟩))
      · cases w2 with
        | no => cases hb
        | @yes sx' dx' c' l' v1' v2' v3' t1' t3' m4 m5 m6 =>
          iterate 60 (first | (with_reducible show wpAny _ _ (eval (PySem.Expr.BoolOp _ _ _) _) _ _ _) | (k_unfold; (try dsimp only)) | walk1 | (dsimp only; walk1))
          refine merge_v (.bool (l.contains 110 || l'.contains 110)) (by k_asm) (by k_asm) ?_ ?_
          · k_steps
            all_goals (first | k_asm | (simp only [*, Bool.or_true, Bool.true_or, Bool.false_or, Bool.or_false]; done))
          intro h8 tk8 F8 N8
          k_steps
          rename (∀ p ∈ news, _ < _) => la9
          rename (_ < _) => lb9
          refine hret _ _ _ _ (by k_asm) (by k_asm) ⟨ext2 (allLt_of la9) lb9, ?_⟩
          rw [markF_yes hb]
          exact ⟨_, _, _, _, _, _, _, _, rfl, .head _, .tail _ (.head _)⟩)
-- MarkE
set_option maxRecDepth 100000 in
set_option maxHeartbeats 8000000 in
theorem end_ok {w : World} {mean : ExcName → Option Value} {mg mb : Str → Option Value} {vw vd cds : Addr} {bs p : Int} {cvs : List Value} {row : List Int} {e : Nat} {a1 a2 a3 tk : Tok} {tb td rw : Addr} {ro : Obj} {kvs : List (Int × Value)} {u1 u2 : Tok} {o1 o2 : Option (Nat × List Nat)} {news : List (Addr × Obj)} (h1 : (vw, instObj 338 vd) ∈ news) (h2 : (vd, viewD w cds bs a1 a2 a3) ∈ news) (h3 : (cds, listOf cvs.toArray e) ∈ news) (hI : IntsAre cvs (row.map fun x => 97 + x)) (hr : row.length ≤ 60) (hb0 : 0 ≤ bs) (hb1 : bs < 100) (hp0 : -50 ≤ p) (hp1 : p < 900)
    (g1 : (tb, instObj 167 td) ∈ news) (g2 : (td, tabD w rw u1 u2) ∈ news) (g3 : (rw, ro) ∈ news) (hro : Obj.IsDictOf (intKind Challenge.rw_ok0055_01.row.prog w) ro kvs) (hlo : (rw == sysModules) = false) (s1 : SynAt w news kvs row bs p o1) (s2 : SynAt w news kvs row bs (p + 1) o2) :
    Ctr w mean mg mb 6 220 [.ref vw, .ref tb, .int p tk] news (fun r news' => Ext news news' ∧ MarkAt w news' r (markF 51 52 62 false o1 o2)) := by
  w_on
  unfold Ctr
  k_fill
  intro dp un gd cn cs a ccd cl outer A₀ base h₀ L m s Q E B F X N T hk hd hu hret
  refine wpAny_call ?_
  k_dflt ktr_enter
  w_strict (
    iterate 60 (first | (with_reducible show wpAny _ _ (exec (Stmt.If _ _ _ _) _) _ _ _) | (k_unfold; (try dsimp only)) | walk1 | (dsimp only; walk1))
    rename VAt _ _ _ o2 => w2
    rename VAt _ _ _ o1 => w1
    cases w1 with
    | no =>
      k_steps
      exact hret _ _ _ _ (by k_asm) (news_sub (by k_asm) fun p hp => .tail _ hp) ⟨⟨[], rfl, fun _ h => nomatch h⟩, rfl⟩
    | @yes sx dx c l v1 v2 v3 t1 t3 m1 m2 m3 =>
      walk1
      iterate 30 (first | (with_reducible show wpAny _ _ (exec (Stmt.If _ _ _ _) _) _ _ _) | (k_unfold; (try dsimp only)) | walk1 | (dsimp only; walk1))
      walk1
      rename News _ _ _ _ => N8
      refine merge_b (condF 51 52 l o2) (by k_asm) (news_sub (news := news) N8 fun p hp => .tail _ hp) ?_ ?_
      · have N7 := news_sub (news := news) N8 fun p hp => .tail _ hp
        clear N8
        rcases w2 with _ | ⟨m4, m5, m6⟩
        all_goals (
          k_steps
          all_goals (first | k_asm | (simp only [condF, *, Bool.and_true, Bool.and_false, Bool.true_and, Bool.false_and]; done)))
      clear N8
      intro h9 tk9 F9 N9
      generalize hb : condF 51 52 l o2 = b9
      cases b9
      · k_steps
        all_goals (first
          | (refine hret _ _ _ _ (by k_asm) (by k_asm) ⟨⟨[], rfl, fun _ h => nomatch h⟩, ?_⟩
             rw [markF_no hb, oneF_no (by rw [← eq_gt]; assumption) (by rw [← eq_bang]; assumption)]
             exact rfl)
          | (rename (∀ p ∈ news, _ < _) => la9
             rename (_ < _) => lb9
             refine hret _ _ _ _ (by k_asm) (by k_asm) ⟨ext2 (allLt_of la9) lb9, ?_⟩
             first
               | rw [markF_no hb, oneF_yes (by rw [← eq_gt]; assumption)]
               | rw [markF_no hb, oneF_bang (by rw [← eq_gt]; assumption) (by rw [← eq_bang]; assumption)]
             exact ⟨_, _, _, _, _, _, _, _, rfl, .head _, .tail _ (.head _)⟩))
      · cases w2 with
        | no => cases hb
        | @yes sx' dx' c' l' v1' v2' v3' t1' t3' m4 m5 m6 =>
          iterate 60 (first | (with_reducible show wpAny _ _ (eval (PySem.Expr.BoolOp _ _ _) _) _ _ _) | (k_unfold; (try dsimp only)) | walk1 | (dsimp only; walk1))
          refine merge_v (.bool (l.contains 110 || l'.contains 110)) (by k_asm) (by k_asm) ?_ ?_
          · k_steps
            all_goals (first | k_asm | (simp only [*, Bool.or_true, Bool.true_or, Bool.false_or, Bool.or_false]; done))
          intro h8 tk8 F8 N8
          k_steps
          rename (∀ p ∈ news, _ < _) => la9
          rename (_ < _) => lb9
          refine hret _ _ _ _ (by k_asm) (by k_asm) ⟨ext2 (allLt_of la9) lb9, ?_⟩
          rw [markF_yes hb]
          exact ⟨_, _, _, _, _, _, _, _, rfl, .head _, .tail _ (.head _)⟩)
end
section
-- Tup
noncomputable def TupAt (news : List (Addr × Obj)) (v : Value) : Option (Int × Str × Bool × Bool) → Prop
  | none => v = .none
  | some (n, st, ne, fe) => ∃ t t1 t2 e, v = .ref t ∧ (t, tupOf #[.int n t1, .str st t2, .bool ne, .bool fe] e) ∈ news
theorem ext1' {x : Addr} {ox : Obj} {news : List (Addr × Obj)} (h : ∀ p ∈ news, p.1 < x) : Ext news ((x, ox) :: news) :=
  ⟨[(x, ox)], rfl, List.forall_mem_cons.mpr ⟨h, fun _ h => nomatch h⟩⟩
end
section
-- Fits
noncomputable def fitF : Option (Int × Str × Bool × Bool) → Str → Bool → Bool → Bool
  | none, _, _, _ => false
  | some (_, st, ne, fe), s, n, f => if f = true then fe else !fe && (st == s && ne == n)
set_option maxRecDepth 100000 in
set_option maxHeartbeats 8000000 in
theorem fits_ok {w : World} {mean : ExcName → Option Value} {mg mb : Str → Option Value} {v : Value} {md : Option (Int × Str × Bool × Bool)} {st : Str} {ne fe : Bool} {t : Tok} {news : List (Addr × Obj)} (hm : MarkAt w news v md) :
    Ctr w mean mg mb 1 227 [v, .str st t, .bool ne, .bool fe] news (fun r news' => r = .bool (fitF md st ne fe) ∧ news' = news) := by
  w_on
  unfold Ctr
  k_fill
  intro dp un gd cn cs a ccd cl outer A₀ base h₀ L m s Q E B F X N T hk hd hu hret
  rcases md with _ | ⟨n, st', ne', fe'⟩
  · subst hm
    refine wpAny_call ?_
    k_dflt ktr_enter
    w_strict (
      k_steps
      exact hret _ _ _ _ (by k_asm) (by k_asm) ⟨rfl, rfl⟩)
  · obtain ⟨mk, dm, u1, u2, u3, u4, t1, t2, rfl, h1, h2⟩ := hm
    refine wpAny_call ?_
    k_dflt ktr_enter
    cases fe <;> cases fe'
    all_goals w_strict (
      k_steps
      all_goals (refine hret _ _ _ _ (by k_asm) (by k_asm) ⟨?_, rfl⟩)
      all_goals (first
        | rfl
        | (rename ((_ == _) = true) => q9; simp [fitF, q9])
        | (rename ((_ == _) = false) => q9; simp [fitF, q9])))
end
section
-- TSlice
set_option maxRecDepth 100000

section
variable {prog : Program} {w : World} {A : Around} {E : Value → Shared → Prop} {s : Shared} {h₀ : Heap} {L : Addr} {m : Str → Option Value} {news : List (Addr × Obj)}
theorem cut13_places {sl : Addr} {u v : Tok} {Q : Int × Int × Nat → Shared → Prop} (hs : s.heap.IsSliceOf sl (.int 1 u) (.int 3 v) .none) (h : Q (1, 1, 2) s) :
    wpAny (model prog w) A (Builtin.Slice.sliceApplied (.ref sl) (pure (4 : Int))) Q E s := by
  obtain ⟨os, hos, hcs, hds⟩ := id hs
  unfold Builtin.Slice.sliceApplied Builtin.Slice.sliceFields
  refine wpAny_bind (wpAny_bind (wpAny_field hos hds (x := .int 1 u) rfl (wpAny_bind (wpAny_field hos hds (x := .int 3 v) rfl (wpAny_bind (wpAny_field hos hds (x := .none) rfl (wpAny_pure ?_)))))))
  refine wpAny_bind (slicePart_none ?_)
  show wpAny _ _ (if ((1 : Int) == 0) = true then _ else _) _ _ s
  rw [if_neg (by decide)]
  refine wpAny_bind (slicePart_int (wpAny_bind (slicePart_int (wpAny_bind (wpAny_pure ?_)))))
  show wpAny _ _ (match Builtin.Slice.sliceAdjust (some (1 : Int)) (some (3 : Int)) 1 (4 : Int) with | (lo, hi) => pure (lo, (1 : Int), Builtin.Slice.slicePlaces lo hi 1)) _ _ s
  rw [show Builtin.Slice.sliceAdjust (some (1 : Int)) (some (3 : Int)) 1 (4 : Int) = (1, 3) from by decide +kernel]
  show wpAny _ _ (pure ((1 : Int), (1 : Int), Builtin.Slice.slicePlaces (1 : Int) (3 : Int) 1)) _ _ s
  rw [show Builtin.Slice.slicePlaces (1 : Int) (3 : Int) 1 = 2 from by decide +kernel]
  exact wpAny_pure h
theorem cut13_item {t sl : Addr} {x0 x1 x2 x3 : Value} {u v : Tok} {Q : Value → Shared → Prop} (ht : IsTup s.heap t #[x0, x1, x2, x3]) (hs : s.heap.IsSliceOf sl (.int 1 u) (.int 3 v) .none)
    (h : Q (.ref s.heap.objs.size) { s with heap := s.heap.push (tupOf #[x1, x2] 0) }) : wpAny (model prog w) A (getItem (.ref t) (.ref sl)) Q E s := by
  have hfit : sizeOk (.seq #[x1, x2]) := by
    show (2 : Nat) ≤ sizeLine
    decide +kernel
  obtain ⟨os, hos, hcs, hds⟩ := id hs
  have hT : s.TypeIs (.ref sl) "slice" := ⟨os, hos, hcs⟩
  unfold getItem
  try with_reducible refine wpAny_holding ?_
  first | refine wpAny_bind (wpAny_pure ?_) | skip
  refine wpAny_bind (wpAny_sequenceKey ht.typeIs (by decide) ?_)
  refine wpAny_bind (wpAny_callSpecial?_slot (name := Str.ofString "__getitem__") ht.typeIs slot_tuple_getitem
    (wpAny_call_entry slot_tuple_getitem ht.typeIs entry_tuple_getitem ?_ (args_tuple_getitem _ _)))
  show wpAny _ _ (Builtin.Tuple.tupleItemsOf (.ref t) >>= _) _ _ s
  refine wpAny_bind (tupleItemsOf_ ht ?_)
  refine wpAny_bind (wpAny_typeOf hT ?_)
  rw [if_pos (by decide)]
  refine wpAny_bind (cut13_places hs ?_)
  show wpAny _ _ (if ((1 : Int) == 0 && (1 : Int) == 1 && (2 : Nat) == 4) = true then _ else _) _ _ s
  rw [if_neg (by decide)]
  rw [show ((List.range 2).filterMap fun (k : Nat) => (#[x0, x1, x2, x3] : Array Value)[((1 : Int) + (k : Int) * 1).toNat]?).toArray = #[x1, x2] from rfl]
  first
    | exact wpAny_bind (m := Builtin.Tuple.tupleExact _) (wpAny_newObj_type (wpAny_pure ⟨_, rfl, wpAny_pure h⟩) hfit)
    | exact wpAny_bind (m := Builtin.Tuple.tupleExact _) (wpAny_newObj_type (wpAny_bind (wpAny_pure (wpAny_pure ⟨_, rfl, wpAny_pure h⟩))) hfit)
    | exact wpAny_bind (wpAny_bind (m := Builtin.Tuple.tupleExact _) (wpAny_newObj_type (wpAny_pure (wpAny_pure ⟨_, rfl, wpAny_pure h⟩)) hfit))
    | exact wpAny_bind (wpAny_bind (m := Builtin.Tuple.tupleExact _) (wpAny_newObj_type (wpAny_pure ⟨_, rfl, wpAny_pure h⟩) hfit))
theorem cut13 {value slice : Expr} {t : Addr} {x0 x1 x2 x3 : Value} {e : Nat} {u v : Tok} {Q : Value → Shared → Prop}
    (F : Fr h₀ L s.heap m) (N : News h₀ L s.heap news) (hm : (t, tupOf #[x0, x1, x2, x3] e) ∈ news)
    (h : ∀ D h', Fr h₀ L h' m → News h₀ L h' ((D, tupOf #[x1, x2] 0) :: news) → (∀ p ∈ news, p.1 < D) → Q (.ref D) { s with heap := h' })
    (hs : subscripted slice false (.ref t) (.ref s.heap.objs.size) = operate [.ref s.heap.objs.size, .ref t] (getItem (.ref t) (.ref s.heap.objs.size)) := by with_unfolding_all rfl)
    (hg : ∀ r, letTemporaryGo value (.ref t) r = pure () := by intro _; with_unfolding_all rfl) :
    wpAny (model prog w) A (subscriptTail value slice (.ref t) (.ref s.heap.objs.size)) Q E { s with heap := s.heap.push { cls := .type "slice", data := .fields #[.int 1 u, .int 3 v, .none] } } := by
  have ht' : IsTup (s.heap.push { cls := .type "slice", data := .fields #[.int 1 u, .int 3 v, .none] }) t #[x0, x1, x2, x3] := ⟨_, Heap.get?_push_of_some _ (N.get hm), rfl, e, rfl⟩
  refine subscriptTail_ops (s := { s with heap := s.heap.push { cls := .type "slice", data := .fields #[.int 1 u, .int 3 v, .none] } }) ht'.typeIs slot_tuple_getitem.lookup
    (cut13_item ht' (Heap.IsSliceOf.new ..) ?_) hs hg
  have N1 := News.push (F.push { cls := .type "slice", data := .fields #[.int 1 u, .int 3 v, .none] }) (N.grown fun _ _ e => Heap.get?_push_of_some _ e) (tupOf #[x1, x2] 0)
  refine h _ _ ((F.push _).push _) N1 fun p hp => ?_
  show p.1 < (s.heap.push _).objs.size
  rw [Heap.size_push]
  exact Nat.lt_succ_of_lt (Heap.lt_size (N p hp).1)
end
end
section
-- LawF
local macro_rules | `(tactic| walk_at "subscriptTail Name Slice ref ref") => `(tactic| (k_here; k_dflt (refine' cut13 ?F ?N ?m ?_ ?s ?t; (case F => k_asm); (case N => k_asm); (case m => k_mem); (case s => with_unfolding_all rfl); (case t => (intro _; with_unfolding_all rfl))); intro D' h' F' N' l1; (try k_lt l1); (try k_sweep)))
set_option maxRecDepth 100000 in
set_option maxHeartbeats 8000000 in
theorem shown_ok {w : World} {mean : ExcName → Option Value} {mg mb : Str → Option Value} {v : Value} {md : Option (Int × Str × Bool × Bool)} {news : List (Addr × Obj)} (hm : MarkAt w news v md) :
    Ctr w mean mg mb 1 368 [v] news (fun r news' => Ext news news' ∧ TupAt news' r md) := by
  w_on
  unfold Ctr
  k_fill
  intro dp un gd cn cs a ccd cl outer A₀ base h₀ L m s Q E B F X N T hk hd hu hret
  rcases md with _ | ⟨n, st', ne', fe'⟩
  · subst hm
    refine wpAny_call ?_
    k_dflt ktr_enter
    w_strict (
      k_steps
      exact hret _ _ _ _ (by k_asm) (by k_asm) ⟨⟨[], rfl, fun _ h => nomatch h⟩, rfl⟩)
  · obtain ⟨mk, dm, u1, u2, u3, u4, t1, t2, rfl, h1, h2⟩ := hm
    refine wpAny_call ?_
    k_dflt ktr_enter
    w_strict (
      k_steps
      rename (∀ p ∈ news, _ < _) => la9
      exact hret _ _ _ _ (by k_asm) (by k_asm) ⟨ext1' la9, ⟨_, _, _, _, rfl, .head _⟩⟩)
set_option maxRecDepth 100000 in
set_option maxHeartbeats 8000000 in
theorem lfit_ok {w : World} {mean : ExcName → Option Value} {mg mb : Str → Option Value} {v : Value} {md : Option (Int × Str × Bool × Bool)} {st : Str} {ne fe : Bool} {t : Tok} {news : List (Addr × Obj)} (hm : TupAt news v md) (hmd : ∀ n s a b, md = some (n, s, a, b) → PyData.strOk s = true) (hst : PyData.strOk st = true) :
    Ctr w mean mg mb 12 375 [v, .str st t, .bool ne, .bool fe] news (fun r news' => r = .bool (fitF md st ne fe) ∧ news' = news) := by
  w_on
  unfold Ctr
  k_fill
  intro dp un gd cn cs a ccd cl outer A₀ base h₀ L m s Q E B F X N T hk hd hu hret
  rcases md with _ | ⟨n, st', ne', fe'⟩
  · subst hm
    refine wpAny_call ?_
    k_dflt ktr_enter
    w_strict (
      k_steps
      exact hret _ _ _ _ (by k_asm) (by k_asm) ⟨rfl, rfl⟩)
  · obtain ⟨tp, t1, t2, e, rfl, h1⟩ := hm
    refine wpAny_call ?_
    k_dflt ktr_enter
    cases fe <;> cases fe'
    · w_strict (
        k_steps
        refine eq_dataH (reads_tuple_at (News.get (by k_asm) (.tail _ (.head _))) rfl rfl (.cons (Reads.str _ _) (.cons (Reads.bool _) .nil))) (reads_tuple_at (News.get (by k_asm) (.head _)) rfl rfl (.cons (Reads.str _ _) (.cons (Reads.bool _) .nil))) ?sa ?sb (by ktr_units) ?_
        case sa => simp [SeqAt.shaped, PyData.canLay0, PyData.canLayAll0, PyData.depth, PyData.depthAll, hmd _ _ _ _ rfl]
        case sb => simp [SeqAt.shaped, PyData.canLay0, PyData.canLayAll0, PyData.depth, PyData.depthAll, hst]
        k_steps
        refine hret _ _ _ _ (by k_asm) (news_sub (by k_asm) fun p hp => .tail _ (.tail _ hp)) ⟨?_, rfl⟩
        simp [fitF, PyData.eqv, PyData.eqvAll])
    all_goals w_strict (
      k_steps
      all_goals (exact hret _ _ _ _ (by k_asm) (by k_asm) ⟨rfl, rfl⟩))
end
section
-- LawM0
inductive SgAt (news : List (Addr × Obj)) : Value → Option (Nat × List Nat) → Prop
  | no : SgAt news .none none
  | yes {a : Addr} {c : Nat} {l : List Nat} {t1 t3 : Tok} {e : Nat} : (a, tupOf #[.str (sgn c) t1, .str (txt l) t3] e) ∈ news → (txt l).length ≤ 7 → SgAt news (.ref a) (some (c, l))
theorem occ_c (c : Nat) (x : Str) (hx : x = sgn c) (l : List Nat) : l.contains c = !(Builtin.Str.occurrences (txt l) x 0 (txt l).length 1).isEmpty := by
  subst hx
  rw [show sgn c = ⟨#[c]⟩ from rfl, occ_txt, Bool.not_not]
theorem occ_app (c : Nat) (x : Str) (hx : x = sgn c) (l l' : List Nat) : (l.contains c || l'.contains c) = !(Builtin.Str.occurrences (txt l ++ txt l') x 0 (txt l ++ txt l').length 1).isEmpty := by
  have e : txt l ++ txt l' = txt (l ++ l') := by
    apply Str.ext'
    simp [txt, Str.cps_append]
  rw [e, ← occ_c c x hx (l ++ l')]
  cases h : (l ++ l').contains c with
  | true =>
    rw [List.contains_iff_mem, List.mem_append] at h
    rcases h with h | h
    · rw [List.contains_iff_mem.mpr h, Bool.true_or]
    · rw [List.contains_iff_mem.mpr h, Bool.or_true]
  | false =>
    have h1 : l.contains c = false := by
      cases q : l.contains c with
      | false => rfl
      | true => rw [List.contains_iff_mem.mpr (List.mem_append_left _ (List.contains_iff_mem.mp q))] at h; cases h
    have h2 : l'.contains c = false := by
      cases q : l'.contains c with
      | false => rfl
      | true => rw [List.contains_iff_mem.mpr (List.mem_append_right _ (List.contains_iff_mem.mp q))] at h; cases h
    rw [h1, h2]; rfl
noncomputable abbrev occE (l : List Nat) (x : Str) : Bool := (Builtin.Str.occurrences (txt l) x 0 (txt l).length 1).isEmpty
noncomputable abbrev occA (l l' : List Nat) (x : Str) : Bool := (Builtin.Str.occurrences (txt l ++ txt l') x 0 (txt l ++ txt l').length 1).isEmpty
theorem mF_two {f1 f2 kd c c' : Nat} {l l' : List Nat} {x1 x2 : Str} {flip : Bool} (hx1 : x1 = sgn f1) (hx2 : x2 = sgn f2) (h1 : occE l x1 = false) (h2 : occE l' x2 = false) :
    markF f1 f2 kd flip (some (c, l)) (some (c', l')) = some (2, styl (if flip = true then l'.contains 98 else l.contains 98) (l.contains 99 || l'.contains 99), l.contains 110 || l'.contains 110, false) := by
  have e1 : l.contains f1 = true := by rw [occ_c f1 x1 hx1 l]; exact (congrArg (!·) h1)
  have e2 : l'.contains f2 = true := by rw [occ_c f2 x2 hx2 l']; exact (congrArg (!·) h2)
  simp only [markF, e1, e2, Bool.and_self, if_true]
  cases flip
  · simp
  · simp only [if_true]; rw [Bool.or_comm (l'.contains 99)]
theorem mF_n1 {f1 f2 kd c c' : Nat} {l l' : List Nat} {x1 : Str} {flip : Bool} (hx1 : x1 = sgn f1) (h1 : occE l x1 = true) : markF f1 f2 kd flip (some (c, l)) (some (c', l')) = oneF kd c l := by
  have e1 : l.contains f1 = false := by rw [occ_c f1 x1 hx1 l]; exact (congrArg (!·) h1)
  simp only [markF, e1, Bool.false_and, Bool.false_eq_true, if_false]
theorem mF_n2 {f1 f2 kd c c' : Nat} {l l' : List Nat} {x2 : Str} {flip : Bool} (hx2 : x2 = sgn f2) (h2 : occE l' x2 = true) : markF f1 f2 kd flip (some (c, l)) (some (c', l')) = oneF kd c l := by
  have e2 : l'.contains f2 = false := by rw [occ_c f2 x2 hx2 l']; exact (congrArg (!·) h2)
  simp only [markF, e2, Bool.and_false, Bool.false_eq_true, if_false]
theorem oF_kd {kd c : Nat} {l : List Nat} {x : Str} (hx : x = sgn kd) (h : (sgn c == x) = true) : oneF kd c l = some (1, styl (l.contains 98) (l.contains 99), l.contains 110, false) := by
  subst hx
  rw [sgn_beq] at h
  simp only [oneF, h, if_true]
theorem oF_bang {kd c : Nat} {l : List Nat} {x : Str} (hx : x = sgn kd) (h : (sgn c == x) = false) (h2 : (sgn c == Str.ofString "!") = true) : oneF kd c l = some (1, Str.ofString "", false, true) := by
  subst hx
  rw [sgn_beq] at h
  rw [eq_bang] at h2
  simp only [oneF, h, h2, if_true, Bool.false_eq_true, if_false]
theorem oF_no {kd c : Nat} {l : List Nat} {x : Str} (hx : x = sgn kd) (h : (sgn c == x) = false) (h2 : (sgn c == Str.ofString "!") = false) : oneF kd c l = none := by
  subst hx
  rw [sgn_beq] at h
  rw [eq_bang] at h2
  simp only [oneF, h, h2, Bool.false_eq_true, if_false]
theorem b_of {l : List Nat} {b : Bool} (h : occE l (Str.ofString "b") = b) : l.contains 98 = !b := by rw [occ_c 98 _ sgnb l]; exact congrArg (!·) h
theorem c_of {l : List Nat} {b : Bool} (h : occE l (Str.ofString "c") = b) : l.contains 99 = !b := by rw [occ_c 99 _ sgnc l]; exact congrArg (!·) h
theorem ca_of {l l' : List Nat} {b : Bool} (h : occA l l' (Str.ofString "c") = b) : (l.contains 99 || l'.contains 99) = !b := by rw [occ_app 99 _ sgnc l l']; exact congrArg (!·) h
theorem na_of (l l' : List Nat) : (l.contains 110 || l'.contains 110) = !occA l l' (Str.ofString "n") := occ_app 110 _ sgnn l l'
theorem n_of (l : List Nat) : l.contains 110 = !occE l (Str.ofString "n") := occ_c 110 _ sgnn l
theorem styl_tt : styl (!false) (!false) = Str.ofString "bc" := by decide +kernel
theorem styl_tf : styl (!false) (!true) = Str.ofString "b" := by decide +kernel
theorem styl_ft : styl (!true) (!false) = Str.ofString "c" := by decide +kernel
theorem styl_ff : styl (!true) (!true) = Str.ofString "" := by decide +kernel
theorem sgnlt : Str.ofString "<" = sgn 60 := by decide +kernel
theorem sgngt : Str.ofString ">" = sgn 62 := by decide +kernel
theorem tup_none {news : List (Addr × Obj)} {md : Option (Int × Str × Bool × Bool)} (h : md = none) : TupAt news .none md := by subst h; rfl
theorem tup_some {news : List (Addr × Obj)} {md : Option (Int × Str × Bool × Bool)} {a : Addr} {n : Int} {st : Str} {ne fe : Bool} {t1 t2 : Tok} {e : Nat} (h : md = some (n, st, ne, fe)) : TupAt ((a, tupOf #[.int n t1, .str st t2, .bool ne, .bool fe] e) :: news) (.ref a) md := by
  subst h; exact ⟨_, _, _, _, rfl, .head _⟩
noncomputable def LaterT (x y : Str) (Q : Value → Shared → Prop) (b : Bool) (s : Shared) : Prop := ∀ t tk, Q (.str (if b = true then x else y) t) { s with toks := tk }
theorem ifexp_strs {prog : Program} {w : World} {A : Around} {E : Value → Shared → Prop} {env : Env} {s : Shared} {test : PySem.Expr} {x y : Str} {k1 k2 : Nat} {p1 p2 pos : Pos} {Q : Value → Shared → Prop}
    (h : wpAny (model prog w) A (isTrue test env (eval test env)) (LaterT x y Q) E s) :
    wpAny (model prog w) A (eval (.IfExp test (.Constant (.str x) k1 p1) (.Constant (.str y) k2 p2) pos) env) Q E s := by
  refine IfExp_ (wpAny_mono h (fun c s₂ h₂ => ?_) fun _ _ e => e)
  cases c
  · exact Calls.Constant_str (h₂ _ _)
  · exact Calls.Constant_str (h₂ _ _)
local macro_rules | `(tactic| walk_at "eval IfExp") => `(tactic| (k_here; k_dflt (refine ifexp_strs ?_)))
local macro_rules | `(tactic| walk_at "LaterT") => `(tactic| (k_here; k_dflt (intro t9 tk9)))
theorem add_styl {prog : Program} {w : World} {A : Around} {E : Value → Shared → Prop} {s : Shared} {b c : Bool} {t1 t2 : Tok} {Q : Value → Shared → Prop} (h : ∀ t tk, Q (.str (styl b c) t) { s with toks := tk }) :
    wpAny (model prog w) A (binaryOp .Add (.str (if b = true then Str.ofString "b" else Str.ofString "") t1) (.str (if c = true then Str.ofString "c" else Str.ofString "") t2)) Q E s := by
  refine SBL.add (hsz := ?_) fun t k _ => h t k
  cases b <;> cases c <;> (show (_ : Nat) ≤ sizeLine; decide +kernel)
local macro_rules | `(tactic| walk_at "binaryOp Add str str") => `(tactic| (k_here; k_dflt (refine add_styl ?_); intro t9 tk9))
theorem itsgn1 : Txt.item (Str.ofString "12") 0 = sgn 49 := by decide +kernel
theorem itsgn2 : Txt.item (Str.ofString "12") 1 = sgn 50 := by decide +kernel
theorem itsgn3 : Txt.item (Str.ofString "34") 0 = sgn 51 := by decide +kernel
theorem itsgn4 : Txt.item (Str.ofString "34") 1 = sgn 52 := by decide +kernel
end
section
-- LawM
local macro_rules | `(tactic| walk_at "pad") => `(tactic| fail)
local macro_rules | `(tactic| walk_at "eval IfExp") => `(tactic| (k_here; k_dflt (refine ifexp_strs ?_)))
local macro_rules | `(tactic| walk_at "LaterT") => `(tactic| (k_here; k_dflt (intro t9 tk9)))
local macro_rules | `(tactic| walk_at "binaryOp Add str str") => `(tactic| (k_here; (with_reducible show wpAny _ _ (binaryOp _ (Value.str (ite _ _ _) _) (Value.str (ite _ _ _) _)) _ _ _); k_dflt (refine add_styl ?_); intro t9 tk9))
set_option maxRecDepth 100000 in
set_option maxHeartbeats 8000000 in
theorem lmark1_no {w : World} {mean : ExcName → Option Value} {mg mb : Str → Option Value} {v2 : Value} {o2 : Option (Nat × List Nat)} {t1 t2 : Tok} {news : List (Addr × Obj)} :
    Ctr w mean mg mb 1 361 [.none, v2, .str (Str.ofString "12") t1, .str (Str.ofString "<") t2] news (fun r news' => Ext news news' ∧ TupAt news' r (markF 49 50 60 true none o2)) := by
  w_on
  unfold Ctr
  k_fill
  intro dp un gd cn cs a ccd cl outer A₀ base h₀ L m s Q E B F X N T hk hd hu hret
  refine wpAny_call ?_
  k_dflt ktr_enter
  w_strict (
      k_steps
      exact hret _ _ _ _ (by k_asm) (by k_asm) ⟨⟨[], rfl, fun _ h => nomatch h⟩, rfl⟩)
set_option maxRecDepth 100000 in
set_option maxHeartbeats 8000000 in
theorem lmark1_yn {w : World} {mean : ExcName → Option Value} {mg mb : Str → Option Value} {a1 : Addr} {c : Nat} {l : List Nat} {x1 x2 : Tok} {e1 : Nat} {t1 t2 : Tok} {news : List (Addr × Obj)} (h1 : (a1, tupOf #[.str (sgn c) x1, .str (txt l) x2] e1) ∈ news) (hl : (txt l).length ≤ 7) :
    Ctr w mean mg mb 1 361 [.ref a1, .none, .str (Str.ofString "12") t1, .str (Str.ofString "<") t2] news (fun r news' => Ext news news' ∧ TupAt news' r (markF 49 50 60 true (some (c, l)) none)) := by
  w_on
  unfold Ctr
  k_fill
  intro dp un gd cn cs a ccd cl outer A₀ base h₀ L m s Q E B F X N T hk hd hu hret
  refine wpAny_call ?_
  k_dflt ktr_enter
  w_strict (
      k_steps
      all_goals (first
        | ((with_reducible show Q Value.none _)
           refine hret _ _ _ _ (by k_asm) (by k_asm) ⟨⟨[], rfl, fun _ h => nomatch h⟩, tup_none ?_⟩
           (first | rw [mF_n1 itsgn1 (by with_reducible assumption)] | rw [mF_n2 itsgn2 (by with_reducible assumption)] | (show oneF _ _ _ = _))
           exact oF_no sgnlt (by with_reducible assumption) (by with_reducible assumption))
        | (rename (∀ p ∈ news, _ < _) => la9
           refine hret _ _ _ _ (by k_asm) (by k_asm) ⟨ext1' la9, tup_some ?_⟩
           (first | (rw [mF_two itsgn1 itsgn2 (by with_reducible assumption) (by with_reducible assumption)]; simp only [if_true, Bool.false_eq_true, if_false]; rw [occ_c 98 _ sgnb, occ_app 99 _ sgnc, occ_app 110 _ sgnn]; done) | ((first | rw [mF_n1 itsgn1 (by with_reducible assumption)] | rw [mF_n2 itsgn2 (by with_reducible assumption)] | (show oneF _ _ _ = _)); (first | (rw [oF_bang sgnlt (by with_reducible assumption) (by with_reducible assumption)]; done) | (rw [oF_kd sgnlt (by with_reducible assumption), occ_c 98 _ sgnb, occ_c 99 _ sgnc, occ_c 110 _ sgnn]; done)))))))
set_option maxRecDepth 100000 in
set_option maxHeartbeats 8000000 in
theorem lmark1_yy {w : World} {mean : ExcName → Option Value} {mg mb : Str → Option Value} {a1 : Addr} {c : Nat} {l : List Nat} {x1 x2 : Tok} {e1 : Nat} {a2 : Addr} {c' : Nat} {l' : List Nat} {y1 y2 : Tok} {e2 : Nat} {t1 t2 : Tok} {news : List (Addr × Obj)} (h1 : (a1, tupOf #[.str (sgn c) x1, .str (txt l) x2] e1) ∈ news) (hl : (txt l).length ≤ 7) (h2 : (a2, tupOf #[.str (sgn c') y1, .str (txt l') y2] e2) ∈ news) (hl' : (txt l').length ≤ 7) :
    Ctr w mean mg mb 1 361 [.ref a1, .ref a2, .str (Str.ofString "12") t1, .str (Str.ofString "<") t2] news (fun r news' => Ext news news' ∧ TupAt news' r (markF 49 50 60 true (some (c, l)) (some (c', l')))) := by
  w_on
  unfold Ctr
  k_fill
  intro dp un gd cn cs a ccd cl outer A₀ base h₀ L m s Q E B F X N T hk hd hu hret
  refine wpAny_call ?_
  k_dflt ktr_enter
  w_strict (
      k_steps
      all_goals (first
        | ((with_reducible show Q Value.none _)
           refine hret _ _ _ _ (by k_asm) (by k_asm) ⟨⟨[], rfl, fun _ h => nomatch h⟩, tup_none ?_⟩
           (first | rw [mF_n1 itsgn1 (by with_reducible assumption)] | rw [mF_n2 itsgn2 (by with_reducible assumption)] | (show oneF _ _ _ = _))
           exact oF_no sgnlt (by with_reducible assumption) (by with_reducible assumption))
        | (rename (∀ p ∈ news, _ < _) => la9
           refine hret _ _ _ _ (by k_asm) (by k_asm) ⟨ext1' la9, tup_some ?_⟩
           (first | (rw [mF_two itsgn1 itsgn2 (by with_reducible assumption) (by with_reducible assumption)]; simp only [if_true, Bool.false_eq_true, if_false]; rw [occ_c 98 _ sgnb, occ_app 99 _ sgnc, occ_app 110 _ sgnn]; done) | ((first | rw [mF_n1 itsgn1 (by with_reducible assumption)] | rw [mF_n2 itsgn2 (by with_reducible assumption)] | (show oneF _ _ _ = _)); (first | (rw [oF_bang sgnlt (by with_reducible assumption) (by with_reducible assumption)]; done) | (rw [oF_kd sgnlt (by with_reducible assumption), occ_c 98 _ sgnb, occ_c 99 _ sgnc, occ_c 110 _ sgnn]; done)))))))
theorem lmark1 {w : World} {mean : ExcName → Option Value} {mg mb : Str → Option Value} {v1 v2 : Value} {o1 o2 : Option (Nat × List Nat)} {t1 t2 : Tok} {news : List (Addr × Obj)} (s1 : SgAt news v1 o1) (s2 : SgAt news v2 o2) :
    Ctr w mean mg mb 1 361 [v1, v2, .str (Str.ofString "12") t1, .str (Str.ofString "<") t2] news (fun r news' => Ext news news' ∧ TupAt news' r (markF 49 50 60 true o1 o2)) := by
  cases s1 with
  | no => exact lmark1_no
  | yes h1 hl =>
    cases s2 with
    | no => exact lmark1_yn h1 hl
    | yes h2 hl' => exact lmark1_yy h1 hl h2 hl'
-- LawM2
set_option maxRecDepth 100000 in
set_option maxHeartbeats 8000000 in
theorem lmark2_no {w : World} {mean : ExcName → Option Value} {mg mb : Str → Option Value} {v2 : Value} {o2 : Option (Nat × List Nat)} {t1 t2 : Tok} {news : List (Addr × Obj)} :
    Ctr w mean mg mb 1 361 [.none, v2, .str (Str.ofString "34") t1, .str (Str.ofString ">") t2] news (fun r news' => Ext news news' ∧ TupAt news' r (markF 51 52 62 false none o2)) := by
  w_on
  unfold Ctr
  k_fill
  intro dp un gd cn cs a ccd cl outer A₀ base h₀ L m s Q E B F X N T hk hd hu hret
  refine wpAny_call ?_
  k_dflt ktr_enter
  w_strict (
      k_steps
      exact hret _ _ _ _ (by k_asm) (by k_asm) ⟨⟨[], rfl, fun _ h => nomatch h⟩, rfl⟩)
set_option maxRecDepth 100000 in
set_option maxHeartbeats 8000000 in
theorem lmark2_yn {w : World} {mean : ExcName → Option Value} {mg mb : Str → Option Value} {a1 : Addr} {c : Nat} {l : List Nat} {x1 x2 : Tok} {e1 : Nat} {t1 t2 : Tok} {news : List (Addr × Obj)} (h1 : (a1, tupOf #[.str (sgn c) x1, .str (txt l) x2] e1) ∈ news) (hl : (txt l).length ≤ 7) :
    Ctr w mean mg mb 1 361 [.ref a1, .none, .str (Str.ofString "34") t1, .str (Str.ofString ">") t2] news (fun r news' => Ext news news' ∧ TupAt news' r (markF 51 52 62 false (some (c, l)) none)) := by
  w_on
  unfold Ctr
  k_fill
  intro dp un gd cn cs a ccd cl outer A₀ base h₀ L m s Q E B F X N T hk hd hu hret
  refine wpAny_call ?_
  k_dflt ktr_enter
  w_strict (
      k_steps
      all_goals (first
        | ((with_reducible show Q Value.none _)
           refine hret _ _ _ _ (by k_asm) (by k_asm) ⟨⟨[], rfl, fun _ h => nomatch h⟩, tup_none ?_⟩
           (first | rw [mF_n1 itsgn3 (by with_reducible assumption)] | rw [mF_n2 itsgn4 (by with_reducible assumption)] | (show oneF _ _ _ = _))
           exact oF_no sgngt (by with_reducible assumption) (by with_reducible assumption))
        | (rename (∀ p ∈ news, _ < _) => la9
           refine hret _ _ _ _ (by k_asm) (by k_asm) ⟨ext1' la9, tup_some ?_⟩
           (first | (rw [mF_two itsgn3 itsgn4 (by with_reducible assumption) (by with_reducible assumption)]; simp only [if_true, Bool.false_eq_true, if_false]; rw [occ_c 98 _ sgnb, occ_app 99 _ sgnc, occ_app 110 _ sgnn]; done) | ((first | rw [mF_n1 itsgn3 (by with_reducible assumption)] | rw [mF_n2 itsgn4 (by with_reducible assumption)] | (show oneF _ _ _ = _)); (first | (rw [oF_bang sgngt (by with_reducible assumption) (by with_reducible assumption)]; done) | (rw [oF_kd sgngt (by with_reducible assumption), occ_c 98 _ sgnb, occ_c 99 _ sgnc, occ_c 110 _ sgnn]; done)))))))
set_option maxRecDepth 100000 in
set_option maxHeartbeats 8000000 in
theorem lmark2_yy {w : World} {mean : ExcName → Option Value} {mg mb : Str → Option Value} {a1 : Addr} {c : Nat} {l : List Nat} {x1 x2 : Tok} {e1 : Nat} {a2 : Addr} {c' : Nat} {l' : List Nat} {y1 y2 : Tok} {e2 : Nat} {t1 t2 : Tok} {news : List (Addr × Obj)} (h1 : (a1, tupOf #[.str (sgn c) x1, .str (txt l) x2] e1) ∈ news) (hl : (txt l).length ≤ 7) (h2 : (a2, tupOf #[.str (sgn c') y1, .str (txt l') y2] e2) ∈ news) (hl' : (txt l').length ≤ 7) :
    Ctr w mean mg mb 1 361 [.ref a1, .ref a2, .str (Str.ofString "34") t1, .str (Str.ofString ">") t2] news (fun r news' => Ext news news' ∧ TupAt news' r (markF 51 52 62 false (some (c, l)) (some (c', l')))) := by
  w_on
  unfold Ctr
  k_fill
  intro dp un gd cn cs a ccd cl outer A₀ base h₀ L m s Q E B F X N T hk hd hu hret
  refine wpAny_call ?_
  k_dflt ktr_enter
  w_strict (
      k_steps
      all_goals (first
        | ((with_reducible show Q Value.none _)
           refine hret _ _ _ _ (by k_asm) (by k_asm) ⟨⟨[], rfl, fun _ h => nomatch h⟩, tup_none ?_⟩
           (first | rw [mF_n1 itsgn3 (by with_reducible assumption)] | rw [mF_n2 itsgn4 (by with_reducible assumption)] | (show oneF _ _ _ = _))
           exact oF_no sgngt (by with_reducible assumption) (by with_reducible assumption))
        | (rename (∀ p ∈ news, _ < _) => la9
           refine hret _ _ _ _ (by k_asm) (by k_asm) ⟨ext1' la9, tup_some ?_⟩
           (first | (rw [mF_two itsgn3 itsgn4 (by with_reducible assumption) (by with_reducible assumption)]; simp only [if_true, Bool.false_eq_true, if_false]; rw [occ_c 98 _ sgnb, occ_app 99 _ sgnc, occ_app 110 _ sgnn]; done) | ((first | rw [mF_n1 itsgn3 (by with_reducible assumption)] | rw [mF_n2 itsgn4 (by with_reducible assumption)] | (show oneF _ _ _ = _)); (first | (rw [oF_bang sgngt (by with_reducible assumption) (by with_reducible assumption)]; done) | (rw [oF_kd sgngt (by with_reducible assumption), occ_c 98 _ sgnb, occ_c 99 _ sgnc, occ_c 110 _ sgnn]; done)))))))
theorem lmark2 {w : World} {mean : ExcName → Option Value} {mg mb : Str → Option Value} {v1 v2 : Value} {o1 o2 : Option (Nat × List Nat)} {t1 t2 : Tok} {news : List (Addr × Obj)} (s1 : SgAt news v1 o1) (s2 : SgAt news v2 o2) :
    Ctr w mean mg mb 1 361 [v1, v2, .str (Str.ofString "34") t1, .str (Str.ofString ">") t2] news (fun r news' => Ext news news' ∧ TupAt news' r (markF 51 52 62 false o1 o2)) := by
  cases s1 with
  | no => exact lmark2_no
  | yes h1 hl =>
    cases s2 with
    | no => exact lmark2_yn h1 hl
    | yes h2 hl' => exact lmark2_yy h1 hl h2 hl'
end
section
-- LoopB
theorem Ext.sub {news news' : List (Addr × Obj)} (h : Ext news news') : ∀ p ∈ news, p ∈ news' := by
  obtain ⟨new, rfl, _⟩ := h
  exact fun p hp => List.mem_append_right _ hp
theorem Ext.refl (news : List (Addr × Obj)) : Ext news news := ⟨[], rfl, fun _ h => nomatch h⟩
theorem Ext.trans {a b c : List (Addr × Obj)} (h : Ext a b) (k : Ext b c) : Ext a c := by
  obtain ⟨n1, rfl, l1⟩ := h
  obtain ⟨n2, rfl, l2⟩ := k
  refine ⟨n2 ++ n1, by rw [List.append_assoc], fun p hp q hq => ?_⟩
  rcases List.mem_append.mp hp with hp | hp
  · exact l2 p hp q (List.mem_append_right _ hq)
  · exact l1 p hp q hq
theorem SgAt.mono {news news' : List (Addr × Obj)} {v : Value} {o : Option (Nat × List Nat)} (h : SgAt news v o) (hs : ∀ p ∈ news, p ∈ news') : SgAt news' v o := by
  cases h with
  | no => exact .no
  | yes h hl => exact .yes (hs _ h) hl
theorem TupAt.mono {news news' : List (Addr × Obj)} {v : Value} {md : Option (Int × Str × Bool × Bool)} (h : TupAt news v md) (hs : ∀ p ∈ news, p ∈ news') : TupAt news' v md := by
  rcases md with _ | ⟨n, st, ne, fe⟩
  · exact h
  · obtain ⟨t, t1, t2, e, rfl, hm⟩ := h
    exact ⟨t, t1, t2, e, rfl, hs _ hm⟩
theorem MarkAt.mono {w : World} {news news' : List (Addr × Obj)} {v : Value} {md : Option (Int × Str × Bool × Bool)} (h : MarkAt w news v md) (hs : ∀ p ∈ news, p ∈ news') : MarkAt w news' v md := by
  rcases md with _ | ⟨n, st, ne, fe⟩
  · exact h
  · obtain ⟨mk, dm, u1, u2, u3, u4, t1, t2, rfl, h1, h2⟩ := h
    exact ⟨mk, dm, u1, u2, u3, u4, t1, t2, rfl, hs _ h1, hs _ h2⟩
set_option maxRecDepth 100000 in
set_option maxHeartbeats 8000000 in
theorem loop2 (w : World) (mean : ExcName → Option Value) (mg mb : Str → Option Value) (fa L : Addr) (cd v1 v2 : Value) (p1 p2 : Option (Nat × List Nat)) (base h₀ : Heap) (m : Str → Option Value) (news : List (Addr × Obj)) (s : Shared) (Q : Flow → Shared → Prop) (E : Value → Shared → Prop)
    (B : Below callerA base [] h₀) (F : Fr h₀ L s.heap m) (X : (K0 w.params).In h₀) (N : News h₀ L s.heap news) (T : Top view0 (looseW view0 [Str.ofString "ParseState"]) mean mg mb h₀)
    (g1 : SgAt news v1 p1) (g2 : SgAt news v2 p2)
    (hm1 : m (Str.ofString "one") = some v1) (hm2 : m (Str.ofString "other") = some v2)
    (hret : ∀ D r1 r2 news' tk' h', Ext news news' → TupAt news' r1 (markF 49 50 60 true p1 p2) → TupAt news' r2 (markF 51 52 62 false p1 p2) → (∀ p ∈ news', p.1 < D) → Fr h₀ L h' (fun y => if y = Str.ofString "due" then some (.ref D) else m y) → News h₀ L h' ((D, listOf #[r1, r2] 0) :: news') → Q .next { s with heap := h', toks := tk' }) :
    wpAny (model Challenge.rw_ok0055_01.row.prog w) (callerA.deeper (envLaw L fa cd)) (exec (loopBody.getD 2 (.Pass ⟨0, 0, 0, 0⟩)) (envLaw L fa cd)) Q E s := by
  w_on
  revert X
  k_fill
  intro X
  unfold envLaw
  obtain ⟨sc, hsc⟩ : ∃ sc, sc = lawScope := ⟨_, rfl⟩
  rw [← hsc]
  conv at hsc => rhs; whnf
  subst hsc
  conv => arg 3; arg 1; whnf
  w_strict (
    iterate 40 (first | (with_reducible show wpAny _ _ (call (Value.ref 361) _) _ _ _) | (k_unfold; (try dsimp only)) | walk1 | (dsimp only; walk1))
    k_dflt (refine Ctr.use (lmark1 g1 g2) (by k_asm) (by k_asm) (by k_asm) N (by k_asm) (by first | exact rfl | assumption) (by ktr_room) (by ktr_units) ?_)
    rintro r1 n1 h1 tk1 F1 N1 ⟨e1, a1⟩
    iterate 40 (first | (with_reducible show wpAny _ _ (call (Value.ref 361) _) _ _ _) | (k_unfold; (try dsimp only)) | walk1 | (dsimp only; walk1))
    k_dflt (refine Ctr.use (lmark2 (g1.mono e1.sub) (g2.mono e1.sub)) (by k_asm) (by k_asm) (by k_asm) N1 (by k_asm) (by first | exact rfl | assumption) (by ktr_room) (by ktr_units) ?_)
    rintro r2 n2 h2 tk2 F2 N2 ⟨e2, a2⟩
    k_steps
    exact hret _ r1 r2 n2 _ _ (e1.trans e2) (a1.mono e2.sub) a2 (by assumption) (by k_asm) (by k_asm))
structure LW (w : World) (news : List (Addr × Obj)) (vw vd cds : Addr) (bs : Int) (cvs : List Value) (row : List Int) (e : Nat) (a1 a2 a3 : Tok) (tb td rw : Addr) (ro : Obj) (kvs : List (Int × Value)) (u1 u2 : Tok) : Prop where
  h1 : (vw, instObj 338 vd) ∈ news
  h2 : (vd, viewD w cds bs a1 a2 a3) ∈ news
  h3 : (cds, listOf cvs.toArray e) ∈ news
  hI : IntsAre cvs (row.map fun x => 97 + x)
  hr : row.length < 8
  hb0 : 0 ≤ bs
  hb1 : bs < 3
  g1 : (tb, instObj 167 td) ∈ news
  g2 : (td, tabD w rw u1 u2) ∈ news
  g3 : (rw, ro) ∈ news
  hro : Obj.IsDictOf (intKind Challenge.rw_ok0055_01.row.prog w) ro kvs
  hlo : (rw == sysModules) = false
theorem LW.mono {w : World} {news news' : List (Addr × Obj)} {vw vd cds : Addr} {bs : Int} {cvs : List Value} {row : List Int} {e : Nat} {a1 a2 a3 : Tok} {tb td rw : Addr} {ro : Obj} {kvs : List (Int × Value)} {u1 u2 : Tok}
    (x : LW w news vw vd cds bs cvs row e a1 a2 a3 tb td rw ro kvs u1 u2) (hs : ∀ p ∈ news, p ∈ news') : LW w news' vw vd cds bs cvs row e a1 a2 a3 tb td rw ro kvs u1 u2 :=
  ⟨hs _ x.h1, hs _ x.h2, hs _ x.h3, x.hI, x.hr, x.hb0, x.hb1, hs _ x.g1, hs _ x.g2, hs _ x.g3, x.hro, x.hlo⟩
theorem SynAt.mono {w : World} {news news' : List (Addr × Obj)} {kvs : List (Int × Value)} {row : List Int} {bs p : Int} {o : Option (Nat × List Nat)} (x : SynAt w news kvs row bs p o) (hs : ∀ p ∈ news, p ∈ news') : SynAt w news' kvs row bs p o := by
  cases x with
  | out h => exact .out h
  | inn h1 h2 h3 h4 h5 h6 => exact .inn h1 h2 h3 (hs _ h4) (hs _ h5) h6
set_option maxRecDepth 100000 in
set_option maxHeartbeats 8000000 in
theorem loop3 (w : World) (mean : ExcName → Option Value) (mg mb : Str → Option Value) (fa L : Addr) (cd : Value) (p1 p2 : Option (Nat × List Nat)) {vw vd cds : Addr} {bs : Int} {cvs : List Value} {row : List Int} {e : Nat} {a1 a2 a3 : Tok} {tb td rw : Addr} {ro : Obj} {kvs : List (Int × Value)} {u1 u2 : Tok} (a : Int) (ta tbs : Tok) (base h₀ : Heap) (m : Str → Option Value) (news : List (Addr × Obj)) (s : Shared) (Q : Flow → Shared → Prop) (E : Value → Shared → Prop)
    (B : Below callerA base [] h₀) (F : Fr h₀ L s.heap m) (X : (K0 w.params).In h₀) (N : News h₀ L s.heap news) (T : Top view0 (looseW view0 [Str.ofString "ParseState"]) mean mg mb h₀)
    (lw : LW w news vw vd cds bs cvs row e a1 a2 a3 tb td rw ro kvs u1 u2) (ha0 : -2 < a) (ha1 : a < 20)
    (s1 : SynAt w news kvs row bs (bs + a) p1) (s2 : SynAt w news kvs row bs (bs + a + 1) p2)
    (hm1 : m (Str.ofString "view") = some (.ref vw)) (hm2 : m (Str.ofString "table") = some (.ref tb)) (hm3 : m (Str.ofString "base") = some (.int bs tbs)) (hm4 : m (Str.ofString "at") = some (.int a ta))
    (hret : ∀ D r1 r2 news' tk' h', Ext news news' → MarkAt w news' r1 (markF 49 50 60 true p1 p2) → MarkAt w news' r2 (markF 51 52 62 false p1 p2) → (∀ p ∈ news', p.1 < D) → Fr h₀ L h' (fun y => if y = Str.ofString "found" then some (.ref D) else m y) → News h₀ L h' ((D, listOf #[r1, r2] 0) :: news') → Q .next { s with heap := h', toks := tk' }) :
    wpAny (model Challenge.rw_ok0055_01.row.prog w) (callerA.deeper (envLaw L fa cd)) (exec (loopBody.getD 3 (.Pass ⟨0, 0, 0, 0⟩)) (envLaw L fa cd)) Q E s := by
  w_on
  revert X
  k_fill
  intro X
  unfold envLaw
  obtain ⟨sc, hsc⟩ : ∃ sc, sc = lawScope := ⟨_, rfl⟩
  rw [← hsc]
  conv at hsc => rhs; whnf
  subst hsc
  conv => arg 3; arg 1; whnf
  have q0 := lw.hb0
  have q1 := lw.hb1
  have q2 := lw.hr
  w_strict (
    iterate 40 (first | (with_reducible show wpAny _ _ (call (Value.ref 213) _) _ _ _) | (k_unfold; (try dsimp only)) | walk1 | (dsimp only; walk1))
    k_dflt (refine Ctr.use (begin_ok lw.h1 lw.h2 lw.h3 lw.hI (by omega) q0 (by omega) (by omega) (by omega) lw.g1 lw.g2 lw.g3 lw.hro lw.hlo s1 s2) (by k_asm) (by k_asm) (by k_asm) N (by k_asm) (by first | exact rfl | assumption) (by ktr_room) (by ktr_units) ?_)
    rintro r1 n1 h1 tk1 F1 N1 ⟨e1, b1⟩
    have lw1 := lw.mono e1.sub
    iterate 40 (first | (with_reducible show wpAny _ _ (call (Value.ref 220) _) _ _ _) | (k_unfold; (try dsimp only)) | walk1 | (dsimp only; walk1))
    k_dflt (refine Ctr.use (end_ok lw1.h1 lw1.h2 lw1.h3 lw1.hI (by omega) q0 (by omega) (by omega) (by omega) lw1.g1 lw1.g2 lw1.g3 lw1.hro lw1.hlo (s1.mono e1.sub) (s2.mono e1.sub)) (by k_asm) (by k_asm) (by k_asm) N1 (by k_asm) (by first | exact rfl | assumption) (by ktr_room) (by ktr_units) ?_)
    rintro r2 n2 h2 tk2 F2 N2 ⟨e2, b2⟩
    k_steps
    exact hret _ r1 r2 n2 _ _ (e1.trans e2) (b1.mono e2.sub) b2 (by assumption) (by k_asm) (by k_asm))
end
section
-- LoopC
local macro_rules | `(tactic| walk_at "pad") => `(tactic| fail)
noncomputable abbrev MD := Option (Int × Str × Bool × Bool)
noncomputable def NewTup (news news' : List (Addr × Obj)) (r : Value) (md : MD) : Prop :=
  (md = none ∧ r = .none ∧ news' = news) ∨ ∃ t n st ne fe t1 t2, md = some (n, st, ne, fe) ∧ r = .ref t ∧ news' = (t, tupOf #[.int n t1, .str st t2, .bool ne, .bool fe] 0) :: news ∧ ∀ p ∈ news, p.1 < t
set_option maxRecDepth 100000 in
set_option maxHeartbeats 8000000 in
theorem shown_new {w : World} {mean : ExcName → Option Value} {mg mb : Str → Option Value} {v : Value} {md : MD} {news : List (Addr × Obj)} (hm : MarkAt w news v md) :
    Ctr w mean mg mb 1 368 [v] news (fun r news' => NewTup news news' r md) := by
  w_on
  unfold Ctr
  k_fill
  intro dp un gd cn cs a ccd cl outer A₀ base h₀ L m s Q E B F X N T hk hd hu hret
  rcases md with _ | ⟨n, st', ne', fe'⟩
  · subst hm
    refine wpAny_call ?_
    k_dflt ktr_enter
    w_strict (
      k_steps
      exact hret _ _ _ _ (by k_asm) (by k_asm) (.inl ⟨rfl, rfl, rfl⟩))
  · obtain ⟨mk, dm, u1, u2, u3, u4, t1, t2, rfl, h1, h2⟩ := hm
    refine wpAny_call ?_
    k_dflt ktr_enter
    w_strict (
      k_steps
      rename (∀ p ∈ news, _ < _) => la9
      exact hret _ _ _ _ (by k_asm) (by k_asm) (.inr ⟨_, _, _, _, _, _, _, rfl, rfl, rfl, la9⟩))
noncomputable def mdD : MD → PyData
  | none => .none
  | some (n, st, ne, fe) => .tuple [.int n, .str st, .bool ne, .bool fe]
noncomputable def mdOk (md : MD) : Prop := ∀ n st ne fe, md = some (n, st, ne, fe) → (-20 ≤ n ∧ n ≤ 40) ∧ ∀ t, Atom (.str st t) (.str st)
theorem tup_md {h₀ : Heap} {news : List (Addr × Obj)} {v : Value} {md : MD} (h : TupAt news v md) (ok : mdOk md) : Dt h₀ news v (mdD md) 1 := by
  rcases md with _ | ⟨n, st, ne, fe⟩
  · subst h; exact atom_none.dt
  · obtain ⟨t, t1, t2, e, rfl, hm⟩ := h
    obtain ⟨hn, hs⟩ := ok _ _ _ _ rfl
    exact tup_dt hm (.cons (atom_int _ hn.1 hn.2).dt (.cons (hs _).dt (.cons (atom_bool _).dt (.cons (atom_bool _).dt .nil)))) (by simp)
inductive TupsAt (news : List (Addr × Obj)) : List Value → List MD → Prop
  | nil : TupsAt news [] []
  | cons {v : Value} {md : MD} {vs : List Value} {mds : List MD} : TupAt news v md → TupsAt news vs mds → TupsAt news (v :: vs) (md :: mds)
theorem TupsAt.mono {news news' : List (Addr × Obj)} {vs : List Value} {mds : List MD} (h : TupsAt news vs mds) (hs : ∀ p ∈ news, p ∈ news') : TupsAt news' vs mds := by
  induction h with
  | nil => exact .nil
  | cons x _ ih => exact .cons (x.mono hs) ih
theorem TupsAt.snoc {news : List (Addr × Obj)} {vs : List Value} {mds : List MD} (h : TupsAt news vs mds) {v : Value} {md : MD} (x : TupAt news v md) : TupsAt news (vs ++ [v]) (mds ++ [md]) := by
  induction h with
  | nil => exact .cons x .nil
  | cons y _ ih => exact .cons y ih
theorem TupsAt.length {news : List (Addr × Obj)} {vs : List Value} {mds : List MD} (h : TupsAt news vs mds) : vs.length = mds.length := by
  induction h with
  | nil => rfl
  | cons _ _ ih => simp [ih]
theorem TupsAt.dt {h₀ : Heap} {news : List (Addr × Obj)} {vs : List Value} {mds : List MD} (h : TupsAt news vs mds) (ok : ∀ md ∈ mds, mdOk md) : DtAll h₀ news 1 vs (mds.map mdD) := by
  induction h with
  | nil => exact .nil
  | cons x _ ih => exact .cons (tup_md x (ok _ (.head _))) (ih fun md hm => ok md (.tail _ hm))
end
section
-- LoopD
local macro_rules | `(tactic| walk_at "pad") => `(tactic| fail)
local macro_rules | `(tactic| walk_at "eval ListComp") => `(tactic| (k_here; k_dflt (refine LCg.ListComp_U (F₀ := by k_asm) (by with_unfolding_all rfl) (by decide) (by rfl) (by decide) (by rfl) ?_)))
theorem off3_of {I C D : Addr} {news : List (Addr × Obj)} (h1 : ∀ p ∈ news, p.1 ≠ I) (h2 : ∀ p ∈ news, p.1 ≠ C) (h3 : ∀ p ∈ news, p.1 ≠ D) : LCg.Off3 I C D news := LCg.Off3.of fun p hp => ⟨h1 p hp, h2 p hp, h3 p hp⟩
theorem mark2 {w : World} {news : List (Addr × Obj)} {f1 f2 v : Value} {md1 md2 : MD} {i : Nat} (hi : i < 2) (hv : #[f1, f2][i]? = some v) (k1 : MarkAt w news f1 md1) (k2 : MarkAt w news f2 md2) :
    ∃ md, MarkAt w news v md ∧ [md1, md2].take (i + 1) = [md1, md2].take i ++ [md] := by
  match i, hi, hv with
  | 0, _, hv => cases hv; exact ⟨md1, k1, rfl⟩
  | 1, _, hv => cases hv; exact ⟨md2, k2, rfl⟩
set_option maxRecDepth 100000 in
set_option maxHeartbeats 8000000 in
theorem loop4 (w : World) (mean : ExcName → Option Value) (mg mb : Str → Option Value) (fa L fd de : Addr) (cd f1 f2 d1 d2 : Value) (md1 md2 : MD) (ef ed : Nat) (base h₀ : Heap) (m : Str → Option Value) (news : List (Addr × Obj)) (s : Shared) (Q : Flow → Shared → Prop) (E : Value → Shared → Prop)
    (B : Below callerA base [] h₀) (F : Fr h₀ L s.heap m) (X : (K0 w.params).In h₀) (N : News h₀ L s.heap news) (T : Top view0 (looseW view0 [Str.ofString "ParseState"]) mean mg mb h₀)
    (g1 : (fd, listOf #[f1, f2] ef) ∈ news) (g2 : (de, listOf #[d1, d2] ed) ∈ news) (k1 : MarkAt w news f1 md1) (k2 : MarkAt w news f2 md2) (t1 : TupAt news d1 md1) (t2 : TupAt news d2 md2) (ok1 : mdOk md1) (ok2 : mdOk md2)
    (hm1 : m (Str.ofString "found") = some (.ref fd)) (hm2 : m (Str.ofString "due") = some (.ref de))
    (hret : ∀ tk' h', Fr h₀ L h' m → News h₀ L h' news → Q .next { s with heap := h', toks := tk' }) :
    wpAny (model Challenge.rw_ok0055_01.row.prog w) (callerA.deeper (envLaw L fa cd)) (exec (loopBody.getD 4 (.Pass ⟨0, 0, 0, 0⟩)) (envLaw L fa cd)) Q E s := by
  w_on
  revert X
  k_fill
  intro X
  unfold envLaw
  obtain ⟨sc, hsc⟩ : ∃ sc, sc = lawScope := ⟨_, rfl⟩
  rw [← hsc]
  conv at hsc => rhs; whnf
  subst hsc
  conv => arg 3; arg 1; whnf
  have oks : ∀ md ∈ [md1, md2], mdOk md := List.forall_mem_cons.mpr ⟨ok1, List.forall_mem_cons.mpr ⟨ok2, fun _ h => nomatch h⟩⟩
  w_strict (
    iterate 12 (first | (with_reducible show LCg.CompSrc _ _ _ _ _ _ _ _ _ _ _ _ _ _) | (k_unfold; (try dsimp only)) | walk1 | (dsimp only; walk1))
    refine LCg.CompSrc.ledger (by rfl) (by k_asm) N g1 (by show (2 : Nat) ≤ sizeLine; decide +kernel) fun g => ?_
    refine CompRest.induct (n := 2) (fun i zs nw => Ext news nw ∧ TupsAt nw zs ([md1, md2].take i)) ?fin ?step _ 0 [] _ rfl ⟨Ext.refl _, .nil⟩
    case fin =>
      rintro zs nw ⟨ex, ts⟩
      iterate 12 (first | (with_reducible show wpAny _ _ (compareOp CmpOp.NotEq _ _) _ _ _) | (k_unfold; (try dsimp only)) | walk1 | (dsimp only; walk1))
      have ts' : ∀ q, TupsAt (q :: nw) zs [md1, md2] := fun q => TupsAt.mono ts fun p hp => .tail _ hp
      rename News h₀ L _ (_ :: nw) => N9
      refine ne_dt (by k_asm) N9 (list_dt (.head _) ((ts' _).dt oks) (by rw [ts.length]; simp)) (list_dt (vs := [d1, d2]) (.tail _ (ex.sub _ g2)) (.cons (tup_md (t1.mono fun p hp => .tail _ (ex.sub _ hp)) ok1) (.cons (tup_md (t2.mono fun p hp => .tail _ (ex.sub _ hp)) ok2) .nil)) (by simp)) (by decide) (by decide) (by ktr_units) ?_
      k_steps
      exact hret _ _ (by k_asm) (news_sub (by k_asm) fun p hp => .tail _ (ex.sub p hp))
    case step =>
      rintro i zs nw hi ⟨ex, ts⟩ v I oI C oC D m₂ h tk E' hv hC' hx F' N' off ne
      obtain ⟨md, hmk, htk⟩ := mark2 hi hv k1 k2
      iterate 12 (first | (with_reducible show wpAny _ _ (call (Value.ref 368) _) _ _ _) | (k_unfold; (try dsimp only)) | walk1 | (dsimp only; walk1))
      k_dflt (refine Ctr.use (shown_new (hmk.mono fun p hp => .tail _ (.tail _ (.tail _ (ex.sub _ hp))))) (by k_asm) (by k_asm) (by k_asm) N' (by k_asm) (by first | exact rfl | assumption) (by ktr_room) (by ktr_units) ?_)
      rintro r n1 h1 tk1 F1 N1 (⟨rfl, rfl, rfl⟩ | ⟨t, n, st, ne', fe, u1, u2, rfl, rfl, rfl, hlt⟩)
      · k_unfold
        dsimp only
        exact LCg.CompEnd.intro F1 N1 nw (fun p hp => hp) off (.inr ⟨_, ex.sub _ g1, rfl, _, rfl⟩) ⟨ex, by rw [htk]; exact ts.snoc rfl⟩
      · k_unfold
        dsimp only
        refine LCg.CompEnd.intro F1 N1 ((t, tupOf #[.int n u1, .str st u2, .bool ne', .bool fe] 0) :: nw) ?_ ⟨⟨Nat.ne_of_gt (hlt _ (.head _)), Nat.ne_of_gt (hlt _ (.tail _ (.head _))), Nat.ne_of_gt (hlt _ (.tail _ (.tail _ (.head _))))⟩, off⟩ (.inr ⟨_, .tail _ (ex.sub _ g1), rfl, _, rfl⟩) ⟨?_, ?_⟩
        · exact List.forall_mem_cons.mpr ⟨.tail _ (.head _), List.forall_mem_cons.mpr ⟨.tail _ (.tail _ (.head _)), List.forall_mem_cons.mpr ⟨.tail _ (.tail _ (.tail _ (.head _))), List.forall_mem_cons.mpr ⟨.head _, fun p hp => .tail _ (.tail _ (.tail _ (.tail _ hp)))⟩⟩⟩⟩
        · exact ex.trans ⟨[_], rfl, List.forall_mem_cons.mpr ⟨fun q hq => hlt q (.tail _ (.tail _ (.tail _ hq))), fun _ h => nomatch h⟩⟩
        · rw [htk]
          exact (ts.mono fun p hp => .tail _ hp).snoc ⟨_, _, _, _, rfl, .head _⟩)
-- LoopF
local macro_rules | `(tactic| walk_at "storeName") => `(tactic| (k_here; k_dflt (refine' storeX_C ?F ?N ?c ?U ?d ?_ ?a ?b; (case a => rfl); (case b => rfl); (case F => k_asm); (case N => k_asm); (case c => rfl); (case U => first | ((refine' UpdF.tail ?ua (UpdF.head ?ub)); (case ua => k_ne); (case ub => k_all)) | ((refine' UpdF.tail ?ua (UpdF.tail ?uc (UpdF.head ?ub))); (case ua => k_ne); (case uc => k_ne); (case ub => k_all)) | ((refine' UpdF.tail ?ua (UpdF.tail ?uc (UpdF.tail ?ud (UpdF.head ?ub)))); (case ua => k_ne); (case uc => k_ne); (case ud => k_ne); (case ub => k_all))); (case d => k_asm)); intro h' o' F' N' d'; (try dsimp only at N'); (try k_sweep)))
noncomputable def forTarget : Stmt → PySem.Expr
  | .For t _ _ _ _ => t
  | _ => .Constant .none 0 ⟨0, 0, 0, 0⟩
noncomputable def turnBody : List Stmt := forBody (loopBody.getD 5 (.Pass ⟨0, 0, 0, 0⟩))
noncomputable def turnTarget : PySem.Expr := forTarget (loopBody.getD 5 (.Pass ⟨0, 0, 0, 0⟩))
theorem tup2 {news : List (Addr × Obj)} {f1 f2 v : Value} {md1 md2 : MD} {i : Nat} (hi : i < 2) (hv : #[f1, f2][i]? = some v) (k1 : TupAt news f1 md1) (k2 : TupAt news f2 md2) (ok1 : mdOk md1) (ok2 : mdOk md2) :
    ∃ md, TupAt news v md ∧ [md1, md2].take (i + 1) = [md1, md2].take i ++ [md] ∧ mdOk md := by
  match i, hi, hv with
  | 0, _, hv => cases hv; exact ⟨md1, k1, rfl, ok1⟩
  | 1, _, hv => cases hv; exact ⟨md2, k2, rfl, ok2⟩
theorem mdOk.str {md : MD} (ok : mdOk md) : ∀ n s a b, md = some (n, s, a, b) → PyData.strOk s = true := fun n s a b h => by
  have := ((ok n s a b h).2 0).lay
  simpa only [PyData.canLay0] using this
set_option maxRecDepth 100000 in
set_option maxHeartbeats 2000000 in
theorem turn (w : World) (mean : ExcName → Option Value) (mg mb : Str → Option Value) (fa L fd de D : Addr) (cd f1 f2 d1 d2 : Value) (md1 md2 : MD) (ef ed eD : Nat) (st : Str) (tst : Tok) (ne fe : Bool) (base h₀ : Heap) (m : Str → Option Value) (o3 o4 o5 : Obj) (v3 v4 v5 : Option Value) (news : List (Addr × Obj)) (s : Shared) (Q : Flow → Shared → Prop) (I : Addr) (oI : Obj)
    (B : Below callerA base [] h₀) (F : Fr h₀ L s.heap m) (X : (K0 w.params).In h₀) (N : News h₀ L s.heap ((I, oI) :: (L + 1 + 1 + 1, o3) :: (L + 1 + 1 + 1 + 1, o4) :: (L + 1 + 1 + 1 + 1 + 1, o5) :: news)) (T : Top view0 (looseW view0 [Str.ofString "ParseState"]) mean mg mb h₀)
    (hI : @LT.lt Nat _ (L + 1 + 1 + 1 + 1 + 1) I) (hn : ∀ p ∈ news, p.1 ≠ L + 1 + 1 + 1 ∧ p.1 ≠ L + 1 + 1 + 1 + 1 ∧ p.1 ≠ L + 1 + 1 + 1 + 1 + 1)
    (c3 : o3.data = .cell v3) (c4 : o4.data = .cell v4) (c5 : o5.data = .cell v5)
    (g0 : (D, tupOf #[.str st tst, .bool ne, .bool fe] eD) ∈ news)
    (g1 : (fd, listOf #[f1, f2] ef) ∈ news) (g2 : (de, listOf #[d1, d2] ed) ∈ news) (k1 : MarkAt w news f1 md1) (k2 : MarkAt w news f2 md2) (t1 : TupAt news d1 md1) (t2 : TupAt news d2 md2) (ok1 : mdOk md1) (ok2 : mdOk md2)
    (hst : PyData.strOk st = true) (hm1 : m (Str.ofString "found") = some (.ref fd)) (hm2 : m (Str.ofString "due") = some (.ref de))
    (hret : ∀ x o3' o4' o5' v3' v4' v5' tk' h', o3'.data = .cell v3' → o4'.data = .cell v4' → o5'.data = .cell v5' → Fr h₀ L h' (fun z => if z = Str.ofString "wanted" then some x else m z) → News h₀ L h' ((I, oI) :: (L + 1 + 1 + 1, o3') :: (L + 1 + 1 + 1 + 1, o4') :: (L + 1 + 1 + 1 + 1 + 1, o5') :: news) → Q .next { s with heap := h', toks := tk' }) :
    wpAny (model Challenge.rw_ok0055_01.row.prog w) (callerA.deeper (envLaw L fa cd)) (assign turnTarget (envLaw L fa cd) (.ref D)) (fun _ s₂ => wpAny (model Challenge.rw_ok0055_01.row.prog w) (callerA.deeper (envLaw L fa cd)) (execs turnBody (envLaw L fa cd)) Q (fun _ _ => False) s₂) (fun _ _ => False) s := by
  w_on
  revert X
  k_fill
  intro X
  unfold envLaw
  obtain ⟨sc, hsc⟩ : ∃ sc, sc = lawScope := ⟨_, rfl⟩
  rw [← hsc]
  conv at hsc => rhs; whnf
  subst hsc
  obtain ⟨tt, htt⟩ : ∃ tt, tt = turnTarget := ⟨_, rfl⟩
  rw [← htt]
  conv at htt => rhs; whnf
  subst htt
  obtain ⟨tb, htb⟩ : ∃ tb, tb = turnBody := ⟨_, rfl⟩
  rw [← htb]
  conv at htb => rhs; whnf
  subst htb
  have hne3 : ∀ p ∈ news, p.1 ≠ L + 1 + 1 + 1 := fun p hp => (hn p hp).1
  have hne4 : ∀ p ∈ news, p.1 ≠ L + 1 + 1 + 1 + 1 := fun p hp => (hn p hp).2.1
  have hne5 : ∀ p ∈ news, p.1 ≠ L + 1 + 1 + 1 + 1 + 1 := fun p hp => (hn p hp).2.2
  w_strict (
    iterate 40 (first | (with_reducible show LCg.CompSrc _ _ _ _ _ _ _ _ _ _ _ _ _ _) | (k_unfold; (try dsimp only)) | (walk1; (try dsimp only)) | (dsimp only; walk1))
    rename News h₀ L _ (_ :: _) => N9
    refine LCg.CompSrc.ledger (by rfl) (by k_asm) N9 (by k_mem) (by show (2 : Nat) ≤ sizeLine; decide +kernel) fun g => ?_
    refine CompRest.induct (n := 2) (fun i zs nw => zs = ([md1, md2].take i).map (fun md => Value.bool (fitF md st ne fe)) ∧ nw = _) ?fin ?step _ 0 [] _ rfl ⟨rfl, rfl⟩
    case step =>
      rintro i zs nw hi ⟨rfl, rfl⟩ v J oJ C oC G m₂ h tk E' hv hC' hx F' N' off ne'
      obtain ⟨md, hmk, htk, hok⟩ := tup2 hi hv t1 t2 ok1 ok2
      iterate 16 (first | (with_reducible show wpAny _ _ (call (Value.ref 375) _) _ _ _) | (k_unfold; (try dsimp only)) | (walk1; (try dsimp only)) | (dsimp only; walk1))
      k_dflt (refine Ctr.use (lfit_ok (hmk.mono (fun p hp => by repeat' (first | exact hp | apply List.Mem.tail))) hok.str hst) (by k_asm) (by k_asm) (by k_asm) N' (by k_asm) (by first | exact rfl | assumption) (by ktr_room) (by ktr_units) ?_)
      rintro r n1 h1 tk1 F1 N1 ⟨rfl, rfl⟩
      k_unfold
      dsimp only
      exact LCg.CompEnd.intro F1 N1 _ (fun p hp => hp) off (.inr ⟨_, (by k_mem), rfl, _, rfl⟩) ⟨by rw [htk, List.map_append]; rfl, rfl⟩
    case fin =>
      rintro zs nw ⟨rfl, rfl⟩
      iterate 16 (first | (with_reducible show LCg.CompSrc _ _ _ _ _ _ _ _ _ _ _ _ _ _) | (k_unfold; (try dsimp only)) | (walk1; (try dsimp only)) | (dsimp only; walk1))
      rename News h₀ L _ (_ :: _) => N8
      refine LCg.CompSrc.ledger (by rfl) (by k_asm) N8 (by k_mem) (by show (2 : Nat) ≤ sizeLine; decide +kernel) fun g => ?_
      refine CompRest.induct (n := 2) (fun i zs nw => zs = ([md1, md2].take i).map (fun md => Value.bool (fitF md st ne fe)) ∧ nw = _) ?fin2 ?step2 _ 0 [] _ rfl ⟨rfl, rfl⟩
      case step2 =>
        rintro i zs nw hi ⟨rfl, rfl⟩ v J oJ C oC G m₂ h tk E' hv hC' hx F' N' off ne'
        obtain ⟨md, hmk, htk⟩ := mark2 hi hv k1 k2
        iterate 16 (first | (with_reducible show wpAny _ _ (call (Value.ref 227) _) _ _ _) | (k_unfold; (try dsimp only)) | (walk1; (try dsimp only)) | (dsimp only; walk1))
        k_dflt (refine Ctr.use (fits_ok (hmk.mono (fun p hp => by repeat' (first | exact hp | apply List.Mem.tail)))) (by k_asm) (by k_asm) (by k_asm) N' (by k_asm) (by first | exact rfl | assumption) (by ktr_room) (by ktr_units) ?_)
        rintro r n1 h1 tk1 F1 N1 ⟨rfl, rfl⟩
        k_unfold
        dsimp only
        exact LCg.CompEnd.intro F1 N1 _ (fun p hp => hp) off (.inr ⟨_, (by k_mem), rfl, _, rfl⟩) ⟨by rw [htk, List.map_append]; rfl, rfl⟩
      case fin2 =>
        rintro zs nw ⟨rfl, rfl⟩
        iterate 16 (first | (with_reducible show wpAny _ _ (compareOp CmpOp.NotEq _ _) _ _ _) | (k_unfold; (try dsimp only)) | (walk1; (try dsimp only)) | (dsimp only; walk1))
        rename News h₀ L _ (_ :: _) => N7
        refine ne_dt (by k_asm) N7 (list_dt (k := 0) (vs := [.bool (fitF md1 st ne fe), .bool (fitF md2 st ne fe)]) (.head _) (.cons (atom_bool _).dt (.cons (atom_bool _).dt .nil)) (by simp)) (list_dt (k := 0) (vs := [.bool (fitF md1 st ne fe), .bool (fitF md2 st ne fe)]) (.tail _ (.head _)) (.cons (atom_bool _).dt (.cons (atom_bool _).dt .nil)) (by simp)) (by decide) (by decide) (by ktr_units) ?_
        k_steps
        rename (_ = Data.cell (some (Value.bool fe))) => dd5
        rename (_ = Data.cell (some (Value.bool ne))) => dd4
        rename (_ = Data.cell (some (Value.str st tst))) => dd3
        exact hret _ _ _ _ _ _ _ _ _ dd3 dd4 dd5 (by k_asm) (news_sub N7 fun p hp => .tail _ (.tail _ hp)))
end
section
-- LoopG
theorem subL_of : ∀ {l all : List (Addr × Obj)}, (∀ p ∈ l, p ∈ all) → SubL l all
  | [], _, _ => trivial
  | p :: r, all, h => ⟨h p (.head _), subL_of fun q hq => h q (.tail _ hq)⟩
local macro_rules | `(tactic| walk_at "eval ListComp") => `(tactic| (k_here; k_dflt (refine LCg.ListComp_U (F₀ := by k_asm) (by with_unfolding_all rfl) (by decide) (by rfl) (by decide) (by rfl) ?_)))
theorem For_mine {prog : Program} {w : World} {A : Around} {s : Shared} {h₀ : Heap} {L fa : Addr} {cd : Value} {nm : Str} {sc : Scope} {m : Str → Option Value} {target iter : PySem.Expr} {body : List Stmt} {pos : Pos} {Q : Flow → Shared → Prop} (F : Fr h₀ L s.heap m)
    (h : wpAny (model prog w) A (eval iter (envOfC nm sc L fa cd)) (fun xv s₁ => wpAny (model prog w) A (pyIter xv) (fun it s₂ => TurnsAt prog w A h₀ (envOfC nm sc L fa cd) target body Q (fun _ _ => False) it s₂) (fun _ _ => False) s₁) (fun _ _ => False) s)
    (hs : ∀ x, foldedSetIterable iter (envOfC nm sc L fa cd) x = pure x) : wpAny (model prog w) A (exec (.For target iter body [] pos) (envOfC nm sc L fa cd)) Q (fun _ _ => False) s :=
  For_turns (env := envOfC nm sc L fa cd) F h hs PassesOwn.never
structure Tr where
  D : Addr
  st : Str
  t : Tok
  ne : Bool
  fe : Bool
  e : Nat
noncomputable def Tr.itm (r : Tr) : Itm := .val (.ref r.D)
set_option maxRecDepth 100000 in
theorem turns (w : World) (mean : ExcName → Option Value) (mg mb : Str → Option Value) (fa L fd de : Addr) (cd f1 f2 d1 d2 : Value) (md1 md2 : MD) (ef ed : Nat) (base h₀ : Heap) (m₀ : Str → Option Value) (R keep : List (Addr × Obj)) (s : Shared) (Q : Flow → Shared → Prop) (I : Addr)
    (B : Below callerA base [] h₀) (X : (K0 w.params).In h₀) (T : Top view0 (looseW view0 [Str.ofString "ParseState"]) mean mg mb h₀)
    (hI : @LT.lt Nat _ (L + 1 + 1 + 1 + 1 + 1) I) (hRI : ∀ p ∈ R, p.1 < I) (hn : ∀ p ∈ R, p.1 ≠ L + 1 + 1 + 1 ∧ p.1 ≠ L + 1 + 1 + 1 + 1 ∧ p.1 ≠ L + 1 + 1 + 1 + 1 + 1)
    (g1 : (fd, listOf #[f1, f2] ef) ∈ R) (g2 : (de, listOf #[d1, d2] ed) ∈ R) (k1 : MarkAt w R f1 md1) (k2 : MarkAt w R f2 md2) (t1 : TupAt R d1 md1) (t2 : TupAt R d2 md2) (ok1 : mdOk md1) (ok2 : mdOk md2)
    (hkeep : ∀ p ∈ keep, p ∈ R)
    (hQ : ∀ m' o3' o4' o5' v3' v4' v5' h' tk', (∀ y, y ≠ Str.ofString "wanted" → m' y = m₀ y) → o3'.data = .cell v3' → o4'.data = .cell v4' → o5'.data = .cell v5' → Fr h₀ L h' m' → News h₀ L h' ((L + 1 + 1 + 1, o3') :: (L + 1 + 1 + 1 + 1, o4') :: (L + 1 + 1 + 1 + 1 + 1, o5') :: R) → Q .next { s with heap := h', toks := tk' })
    (hm1 : m₀ (Str.ofString "found") = some (.ref fd)) (hm2 : m₀ (Str.ofString "due") = some (.ref de)) :
    ∀ (xs : List Tr) (m : Str → Option Value) (o3 o4 o5 : Obj) (v3 v4 v5 : Option Value), (∀ r ∈ xs, (r.D, tupOf #[.str r.st r.t, .bool r.ne, .bool r.fe] r.e) ∈ R ∧ PyData.strOk r.st = true) → (∀ y, y ≠ Str.ofString "wanted" → m y = m₀ y) → o3.data = .cell v3 → o4.data = .cell v4 → o5.data = .cell v5 →
      ItemsRest Challenge.rw_ok0055_01.row.prog w (callerA.deeper (envLaw L fa cd)) (fun _ _ => False) h₀ (envLaw L fa cd) turnTarget turnBody Q s [(I, "list_iterator")] keep (xs.map Tr.itm) m ((L + 1 + 1 + 1, o3) :: (L + 1 + 1 + 1 + 1, o4) :: (L + 1 + 1 + 1 + 1 + 1, o5) :: R) := by
  intro xs
  induction xs with
  | nil =>
    intro m o3 o4 o5 v3 v4 v5 _ hm c3 c4 c5
    exact ItemsRest.zero fun h tk F N => hQ m o3 o4 o5 v3 v4 v5 h tk hm c3 c4 c5 F N
  | cons r xs ih =>
    intro m o3 o4 o5 v3 v4 v5 hx hm c3 c4 c5
    obtain ⟨hr, hs⟩ := hx r (.head _)
    refine ItemsRest.val fun h tk F => AllObj.cons fun o' hc' => AllObj.nil fun N => ?_
    refine turn w mean mg mb fa L fd de r.D cd f1 f2 d1 d2 md1 md2 ef ed r.e r.st r.t r.ne r.fe base h₀ m o3 o4 o5 v3 v4 v5 R _ _ I o' B F X N T hI hn c3 c4 c5 hr g1 g2 k1 k2 t1 t2 ok1 ok2 hs (by rw [hm _ (by decide)]; exact hm1) (by rw [hm _ (by decide)]; exact hm2) ?_
    intro x o3' o4' o5' v3' v4' v5' tk' h' e3 e4 e5 F' N'
    refine ⟨h', tk', _, (L + 1 + 1 + 1, o3') :: (L + 1 + 1 + 1 + 1, o4') :: (L + 1 + 1 + 1 + 1 + 1, o5') :: R, rfl, F', N', ?_, ?_, ih _ o3' o4' o5' v3' v4' v5' (fun r hr => hx r (.tail _ hr)) (fun y hy => ?_) e3 e4 e5⟩
    · intro p hp q hq
      rw [List.mem_singleton.mp hq]
      have h3 : @LT.lt Nat _ (L + 1 + 1 + 1) I := Nat.lt_of_succ_lt (Nat.lt_of_succ_lt hI)
      have h4 : @LT.lt Nat _ (L + 1 + 1 + 1 + 1) I := Nat.lt_of_succ_lt hI
      rcases List.mem_cons.mp hp with rfl | hp
      · exact Nat.ne_of_lt h3
      · rcases List.mem_cons.mp hp with rfl | hp
        · exact Nat.ne_of_lt h4
        · rcases List.mem_cons.mp hp with rfl | hp
          · exact Nat.ne_of_lt hI
          · exact Nat.ne_of_lt (hRI p hp)
    · exact subL_of fun p hp => .tail _ (.tail _ (.tail _ (hkeep p hp)))
    · exact (if_neg hy).trans (hm y hy)
set_option maxRecDepth 100000 in
set_option maxHeartbeats 4000000 in
theorem loop5 (w : World) (mean : ExcName → Option Value) (mg mb : Str → Option Value) (fa L fd de : Addr) (cd f1 f2 d1 d2 : Value) (md1 md2 : MD) (ef ed : Nat) (base h₀ : Heap) (m : Str → Option Value) (o3 o4 o5 : Obj) (v3 v4 v5 : Option Value) (news : List (Addr × Obj)) (s : Shared) (Q : Flow → Shared → Prop)
    (B : Below callerA base [] h₀) (F : Fr h₀ L s.heap m) (X : (K0 w.params).In h₀) (N : News h₀ L s.heap ((L + 1 + 1 + 1, o3) :: (L + 1 + 1 + 1 + 1, o4) :: (L + 1 + 1 + 1 + 1 + 1, o5) :: news)) (T : Top view0 (looseW view0 [Str.ofString "ParseState"]) mean mg mb h₀)
    (c3 : o3.data = .cell v3) (c4 : o4.data = .cell v4) (c5 : o5.data = .cell v5)
    (g1 : (fd, listOf #[f1, f2] ef) ∈ news) (g2 : (de, listOf #[d1, d2] ed) ∈ news) (k1 : MarkAt w news f1 md1) (k2 : MarkAt w news f2 md2) (t1 : TupAt news d1 md1) (t2 : TupAt news d2 md2) (ok1 : mdOk md1) (ok2 : mdOk md2)
    (hm1 : m (Str.ofString "found") = some (.ref fd)) (hm2 : m (Str.ofString "due") = some (.ref de)) (hn : ∀ p ∈ news, p.1 ≠ L + 1 + 1 + 1 ∧ p.1 ≠ L + 1 + 1 + 1 + 1 ∧ p.1 ≠ L + 1 + 1 + 1 + 1 + 1)
    (hQ : ∀ m' o3' o4' o5' v3' v4' v5' h' tk', (∀ y, y ≠ Str.ofString "wanted" → m' y = m y) → o3'.data = .cell v3' → o4'.data = .cell v4' → o5'.data = .cell v5' → Fr h₀ L h' m' → News h₀ L h' ((L + 1 + 1 + 1, o3') :: (L + 1 + 1 + 1 + 1, o4') :: (L + 1 + 1 + 1 + 1 + 1, o5') :: news) → Q .next { s with heap := h', toks := tk' }) :
    wpAny (model Challenge.rw_ok0055_01.row.prog w) (callerA.deeper (envLaw L fa cd)) (exec (loopBody.getD 5 (.Pass ⟨0, 0, 0, 0⟩)) (envLaw L fa cd)) Q (fun _ _ => False) s := by
  w_on
  revert X
  k_fill
  intro X
  unfold envLaw
  obtain ⟨sc, hsc⟩ : ∃ sc, sc = lawScope := ⟨_, rfl⟩
  rw [← hsc]
  conv at hsc => rhs; whnf
  subst hsc
  conv => arg 3; arg 1; whnf
  w_strict (
    refine @For_mine _ _ _ _ h₀ L fa cd _ _ m _ _ _ _ _ ?F ?h ?hs
    case F => exact F
    case hs => intro _; rfl
    (iterate 85 (first | (with_reducible show wpAny _ _ (pyIter _) _ _ _) | (k_unfold; (try dsimp only)) | (walk1; (try dsimp only)) | (dsimp only; walk1)))
    rename News h₀ L _ (_ :: _) => N9
    rename (_ < _ ∧ _ < _ ∧ _ < _ ∧ _ < _ ∧ _ < _ ∧ _ < _ ∧ _ < _ ∧ _ < _ ∧ AllLt _ news) => la9
    have N8 := news_sub (news := (L + 1 + 1 + 1, o3) :: (L + 1 + 1 + 1 + 1, o4) :: (L + 1 + 1 + 1 + 1 + 1, o5) :: (_, _) :: (_, _) :: (_, _) :: (_, _) :: (_, _) :: (_, _) :: news) N9 (List.forall_mem_cons.mpr ⟨(.tail _ (.tail _ (.tail _ (.tail _ (.tail _ (.tail _ (.head _))))))), List.forall_mem_cons.mpr ⟨(.tail _ (.tail _ (.tail _ (.tail _ (.tail _ (.tail _ (.tail _ (.head _)))))))), List.forall_mem_cons.mpr ⟨(.tail _ (.tail _ (.tail _ (.tail _ (.tail _ (.tail _ (.tail _ (.tail _ (.head _))))))))), List.forall_mem_cons.mpr ⟨(.head _), List.forall_mem_cons.mpr ⟨(.tail _ (.head _)), List.forall_mem_cons.mpr ⟨(.tail _ (.tail _ (.head _))), List.forall_mem_cons.mpr ⟨(.tail _ (.tail _ (.tail _ (.head _)))), List.forall_mem_cons.mpr ⟨(.tail _ (.tail _ (.tail _ (.tail _ (.head _))))), List.forall_mem_cons.mpr ⟨(.tail _ (.tail _ (.tail _ (.tail _ (.tail _ (.head _)))))), fun p hp => (.tail _ (.tail _ (.tail _ (.tail _ (.tail _ (.tail _ (.tail _ (.tail _ (.tail _ hp)))))))))⟩⟩⟩⟩⟩⟩⟩⟩⟩)
    clear N9
    refine iter_listTurns (by rfl) (by k_asm) N8 (.tail _ (.tail _ (.tail _ (.head _)))) (by rfl) (by rfl) ?_
    intro I hI
    have up : ∀ (a b c d e f : Addr × Obj), ∀ p ∈ news, p ∈ a :: b :: c :: d :: e :: f :: news := fun a b c d e f p hp => .tail _ (.tail _ (.tail _ (.tail _ (.tail _ (.tail _ hp)))))
    k_dflt (refine turns w mean mg mb fa L fd de cd f1 f2 d1 d2 md1 md2 ef ed base h₀ m _ _ _ Q I B X T (hI _ (.tail _ (.tail _ (.head _)))) (fun p hp => hI p (.tail _ (.tail _ (.tail _ hp)))) ?hn9 (up _ _ _ _ _ _ _ g1) (up _ _ _ _ _ _ _ g2) (k1.mono (up _ _ _ _ _ _)) (k2.mono (up _ _ _ _ _ _)) (t1.mono (up _ _ _ _ _ _)) (t2.mono (up _ _ _ _ _ _)) ok1 ok2 ?hk9 ?hq9 hm1 hm2 [⟨_, Str.ofString "", s.toks, false, false, 0⟩, ⟨_, Str.ofString "b", s.toks + 1, false, false, 0⟩, ⟨_, Str.ofString "c", s.toks + 1 + 1, true, false, 0⟩, ⟨_, Str.ofString "bc", s.toks + 1 + 1 + 1, true, false, 0⟩, ⟨_, Str.ofString "", s.toks + 1 + 1 + 1 + 1, false, true, 0⟩] m o3 o4 o5 v3 v4 v5 ?hx9 (fun _ _ => rfl) c3 c4 c5)
    case hk9 => exact List.forall_mem_cons.mpr ⟨.head _, fun _ h => nomatch h⟩
    case hn9 => exact List.forall_mem_cons.mpr ⟨(by refine ⟨?_, ?_, ?_⟩ <;> k_ne), List.forall_mem_cons.mpr ⟨(by refine ⟨?_, ?_, ?_⟩ <;> k_ne), List.forall_mem_cons.mpr ⟨(by refine ⟨?_, ?_, ?_⟩ <;> k_ne), List.forall_mem_cons.mpr ⟨(by refine ⟨?_, ?_, ?_⟩ <;> k_ne), List.forall_mem_cons.mpr ⟨(by refine ⟨?_, ?_, ?_⟩ <;> k_ne), List.forall_mem_cons.mpr ⟨(by refine ⟨?_, ?_, ?_⟩ <;> k_ne), hn⟩⟩⟩⟩⟩⟩
    case hx9 => exact List.forall_mem_cons.mpr ⟨⟨(.tail _ (.tail _ (.tail _ (.tail _ (.tail _ (.head _)))))), (show PyData.strOk (Str.ofString "") = true from by decide +kernel)⟩, List.forall_mem_cons.mpr ⟨⟨(.tail _ (.tail _ (.tail _ (.tail _ (.head _))))), (show PyData.strOk (Str.ofString "b") = true from by decide +kernel)⟩, List.forall_mem_cons.mpr ⟨⟨(.tail _ (.tail _ (.tail _ (.head _)))), (show PyData.strOk (Str.ofString "c") = true from by decide +kernel)⟩, List.forall_mem_cons.mpr ⟨⟨(.tail _ (.tail _ (.head _))), (show PyData.strOk (Str.ofString "bc") = true from by decide +kernel)⟩, List.forall_mem_cons.mpr ⟨⟨(.tail _ (.head _)), (show PyData.strOk (Str.ofString "") = true from by decide +kernel)⟩, fun _ h => nomatch h⟩⟩⟩⟩⟩
    case hq9 =>
      intro m' o3' o4' o5' v3' v4' v5' h9 tk9 e1 e3 e4 e5 F9 N9
      exact hQ m' o3' o4' o5' v3' v4' v5' h9 tk9 e1 e3 e4 e5 F9 (news_sub N9 (List.forall_mem_cons.mpr ⟨.head _, List.forall_mem_cons.mpr ⟨.tail _ (.head _), List.forall_mem_cons.mpr ⟨.tail _ (.tail _ (.head _)), fun p hp => .tail _ (.tail _ (.tail _ (up _ _ _ _ _ _ p hp)))⟩⟩⟩)))
end
section
-- Quot
theorem whl_induct {prog : Program} {w : World} {A : Around} {E : Value → Shared → Prop} {env : Env} {test : PySem.Expr} {body orelse : List Stmt} {Q : Flow → Shared → Prop} {k : Nat} (hE : PassesOwn (model prog w) A env E)
    (Inv : Nat → Shared → Prop) (step : ∀ n s, Inv n s → wpAny (model prog w) A (isTrue test env (eval test env)) (fun b s₂ => WhlIf b (wpAny (model prog w) A (execs body env) (fun f s' => f = .next ∧ ∃ n', n' < n ∧ Inv n' s') E s₂) (wpAny (model prog w) A (execs orelse env) Q E s₂)) E s) :
    ∀ n s, Inv n s → WhlRest prog w A E env test body orelse Q k s := by
  have all : ∀ N n, n < N → ∀ s, Inv n s → WhlRest prog w A E env test body orelse Q k s := by
    intro N
    induction N with
    | zero => intro n h; exact absurd h (Nat.not_lt_zero _)
    | succ N ih =>
      intro n hn s hI
      have go : WhlRest prog w A E env test body orelse Q (0 + 1) s := by
        refine whl_turn hE (wpAny_mono (step n s hI) (fun b s₂ h₂ => ?_) fun _ _ e => e)
        cases b with
        | false => exact h₂
        | true =>
          refine wpAny_mono h₂ (fun f s' h' => ?_) fun _ _ e => e
          obtain ⟨rfl, n', hlt, hI'⟩ := h'
          exact ih n' (Nat.lt_of_lt_of_le hlt (Nat.le_of_lt_succ hn)) s' hI'
      exact go
  exact fun n s h => all (n + 1) n (Nat.lt_succ_self _) s h
noncomputable def isE : Option (Nat × List Nat) → Bool
  | some (c, _) => c == 92 || c == 47
  | none => false
noncomputable def esc (f : Int → Option (Nat × List Nat)) : Nat → Int → Int
  | 0, _ => 0
  | n + 1, q => if isE (f q) = true then 1 + esc f n (q - 1) else 0
theorem esc_no {f : Int → Option (Nat × List Nat)} {n : Nat} {q : Int} (h : isE (f q) = false) : esc f n q = 0 := by
  cases n with
  | zero => rfl
  | succ n => simp [esc, h]
theorem esc_yes {f : Int → Option (Nat × List Nat)} {n : Nat} {q : Int} (h : isE (f q) = true) : esc f (n + 1) q = 1 + esc f n (q - 1) := by simp [esc, h]
inductive SynV (w : World) (news : List (Addr × Obj)) (row : List Int) (bs p : Int) : Value → Option (Nat × List Nat) → Prop
  | out : ¬ (bs ≤ p ∧ p < bs + row.length) → SynV w news row bs p .none none
  | inn {sx dx : Addr} {c : Nat} {l : List Nat} {v1 v2 v3 t1 t3 : Tok} : (bs ≤ p ∧ p < bs + row.length) → (sx, instObj 86 dx) ∈ news → (dx, synD w c l v1 v2 v3 t1 t3) ∈ news → SynV w news row bs p (.ref sx) (some (c, l))
theorem synat_ok {w : World} {mean : ExcName → Option Value} {mg mb : Str → Option Value} {vw vd cds : Addr} {bs p : Int} {cvs : List Value} {row : List Int} {e : Nat} {a1 a2 a3 tk : Tok} {tb td rw : Addr} {ro : Obj} {kvs : List (Int × Value)} {u1 u2 : Tok} {o : Option (Nat × List Nat)} {news : List (Addr × Obj)} (h1 : (vw, instObj 338 vd) ∈ news) (h2 : (vd, viewD w cds bs a1 a2 a3) ∈ news) (h3 : (cds, listOf cvs.toArray e) ∈ news) (hI : IntsAre cvs (row.map fun x => 97 + x)) (hr : row.length ≤ 60) (hb0 : 0 ≤ bs) (hb1 : bs < 100) (hp0 : -100 ≤ p) (hp1 : p < 1000)
    (g1 : (tb, instObj 167 td) ∈ news) (g2 : (td, tabD w rw u1 u2) ∈ news) (g3 : (rw, ro) ∈ news) (hro : Obj.IsDictOf (intKind Challenge.rw_ok0055_01.row.prog w) ro kvs) (hlo : (rw == sysModules) = false) (hs : SynAt w news kvs row bs p o) :
    Ctr w mean mg mb 3 199 [.ref vw, .ref tb, .int p tk] news (fun r news' => SynV w news row bs p r o ∧ news' = news) := by
  cases hs with
  | out hq => exact Ctr.mono (syn_out h1 h2 h3 hI hr hb0 hb1 hp0 hp1 hq) fun r n h => ⟨h.1 ▸ .out hq, h.2⟩
  | inn hq hx hg g4 g5 hc => exact Ctr.mono (syn_in h1 h2 h3 hI hr hb0 hb1 hp0 hp1 g1 g2 g3 hro hlo g4 g5 hc hq hx hg) fun r n h => ⟨h.1 ▸ .inn hq g4 g5, h.2⟩
local macro_rules | `(tactic| walk_at "call ref") => `(tactic| (k_here; (with_reducible show wpAny _ _ (call (Value.ref 69) _) _ _ _); k_dflt (refine' Ctr.useR (esc_ok ?h1 ?h2) ?B ?F ?X ?N ?T ?hk ?hd ?hu ?_; (case B => k_asm); (case F => k_asm); (case X => k_asm); (case N => k_asm); (case T => k_asm); (case h1 => k_mem); (case h2 => k_mem); (case hk => first | exact rfl | assumption); (case hd => ktr_room); (case hu => ktr_units); k_whole; intro r9 h' tk' F' N' p9; subst p9; (try dsimp only); (try k_sweep); (try k_fold))))
local macro_rules | `(tactic| walk_at "call ref") => `(tactic| (k_here; (with_reducible show wpAny _ _ (call (Value.ref 199) _) _ _ _); k_dflt (refine' Ctr.useR (synat_ok ?h1 ?h2 ?h3 ?hI ?hr ?hb0 ?hb1 ?hp0 ?hp1 ?g1 ?g2 ?g3 ?hro ?hlo ?hs) ?B ?F ?X ?N ?T ?hk ?hd ?hu ?_; (case B => k_asm); (case F => k_asm); (case X => k_asm); (case N => k_asm); (case T => k_asm); (case hro => assumption); (case hlo => assumption); (case hI => assumption); (case h1 => k_mem); (case h2 => k_mem); (case h3 => k_mem); (case hr => assumption); (case hb0 => assumption); (case hb1 => assumption); (case hp0 => omega); (case hp1 => omega); (case g1 => k_mem); (case g2 => k_mem); (case g3 => k_mem); (case hs => (rename (∀ q : Int, SynAt _ _ _ _ _ _ _) => hall; exact hall _)); (case hk => first | exact rfl | assumption); (case hd => ktr_room); (case hu => ktr_units); k_whole; intro r9 h' tk' F' N' p9; (try dsimp only); (try k_sweep); (try k_fold))))
local macro_rules | `(tactic| k_places) => `(tactic| (dsimp only; first | (refine (if_neg (by decide)).trans ?_; k_places) | (refine (if_pos rfl).trans ?_; exact rfl) | assumption | exact rfl))
noncomputable def QI (w : World) (news : List (Addr × Obj)) (row : List Int) (bs p : Int) (oAt : Int → Option (Nat × List Nat)) (vw tb : Addr) (tk : Tok) (g : Heap) (L : Addr) (s : Shared) (n : Nat) (s1 : Shared) : Prop :=
  ∃ (h : Heap) (t9 : Nat) (v : Value) (k : Int) (tk1 : Tok) (m' : Str → Option Value), s1 = { heap := h, gens := s.gens, drawn := s.drawn, toks := t9, os := s.os } ∧ Fr g L h m' ∧ News g L h news ∧ m' (Str.ofString "view") = some (.ref vw) ∧ m' (Str.ofString "table") = some (.ref tb) ∧ m' (Str.ofString "place") = some (.int p tk) ∧ m' (Str.ofString "count") = some (.int k tk1) ∧ m' (Str.ofString "before") = some v ∧ SynV w news row bs (p - 1 - k) v (oAt (p - 1 - k)) ∧ 0 ≤ k ∧ n = (p - 1 - k - bs + 1).toNat ∧ k + esc oAt n (p - 1 - k) = esc oAt (p - 1 - bs + 1).toNat (p - 1)
set_option maxRecDepth 100000 in
set_option maxHeartbeats 8000000 in
theorem quoted_ok {w : World} {mean : ExcName → Option Value} {mg mb : Str → Option Value} {vw vd cds : Addr} {bs p : Int} {cvs : List Value} {row : List Int} {e : Nat} {a1 a2 a3 tkp : Tok} {tb td rw : Addr} {ro : Obj} {kvs : List (Int × Value)} {u1 u2 : Tok} {oAt : Int → Option (Nat × List Nat)} {news : List (Addr × Obj)} (h1 : (vw, instObj 338 vd) ∈ news) (h2 : (vd, viewD w cds bs a1 a2 a3) ∈ news) (h3 : (cds, listOf cvs.toArray e) ∈ news) (hI : IntsAre cvs (row.map fun x => 97 + x)) (hr : row.length ≤ 60) (hb0 : 0 ≤ bs) (hb1 : bs < 100) (hp0 : -20 ≤ p) (hp1 : p < 800)
    (g1 : (tb, instObj 167 td) ∈ news) (g2 : (td, tabD w rw u1 u2) ∈ news) (g3 : (rw, ro) ∈ news) (hro : Obj.IsDictOf (intKind Challenge.rw_ok0055_01.row.prog w) ro kvs) (hlo : (rw == sysModules) = false) (hall : ∀ q, SynAt w news kvs row bs q (oAt q)) :
    Ctr w mean mg mb 6 234 [.ref vw, .ref tb, .int p tkp] news (fun r news' => r = .bool ((esc oAt (p - 1 - bs + 1).toNat (p - 1)).fmod 2 == 1) ∧ news' = news) := by
  w_on
  unfold Ctr
  k_fill
  intro dp un gd cn cs a ccd cl outer A₀ base h₀ L m s Q E B F X N T hk hd hu hret
  refine wpAny_call ?_
  k_dflt ktr_enter
  w_strict (
    iterate 30 (first | (with_reducible show wpAny _ _ (exec (Stmt.While _ _ _ _) _) _ _ _) | walk1)
    refine' whl_start 100 (whl_induct (by passes_own) (QI w news row bs p oAt vw tb tkp ?g ?L s) ?step (p - 1 - bs + 1).toNat _ ?init)
    case init => exact ⟨_, _, _, _, _, _, rfl, by assumption, by assumption, by k_places, by k_places, by k_places, by k_places, by k_places, by simpa using (by assumption), Int.le_refl 0, by simp, by simp⟩
    case step =>
      intro n s1 hI1
      obtain ⟨h9, t9, v, k, tk1, m', rfl, F9, N9, b1, b2, b3, b4, b5, hs, hk0, hn, htot⟩ := hI1
      generalize ho : oAt (p - 1 - k) = o at hs
      cases hs with
      | out hq =>
        have hz : esc oAt n (p - 1 - k) = 0 := esc_no (by rw [ho]; rfl)
        k_steps
        refine hret _ _ _ _ (by k_asm) (by k_asm) ⟨?_, rfl⟩
        rw [← htot, hz, Int.add_zero]
      | inn hq gg1 gg2 =>
        have tot : ∀ c l, oAt (p - 1 - k) = some (c, l) → (c == 92 || c == 47) = true → k + 1 + esc oAt (p - 1 - (k + 1) - bs + 1).toNat (p - 1 - (k + 1)) = esc oAt (p - 1 - bs + 1).toNat (p - 1) := by
          intro c l ho he
          have e1 : n = (p - 1 - (k + 1) - bs + 1).toNat + 1 := by omega
          have e2 : isE (oAt (p - 1 - k)) = true := by rw [ho]; exact he
          rw [e1, esc_yes e2] at htot
          have e3 : p - 1 - (k + 1) = p - 1 - k - 1 := by omega
          rw [← htot, e3]; omega
        k_steps
        rotate_left 2
        · exact (p - 1 - (k + 1) - bs + 1).toNat
        · have hz : esc oAt n (p - 1 - k) = 0 := esc_no (by rw [ho]; assumption)
          refine hret _ _ _ _ (by k_asm) (by k_asm) ⟨?_, rfl⟩
          rw [← htot, hz, Int.add_zero]
        · rw [hn]; omega
        · exact ⟨_, _, _, k + 1, _, _, rfl, by assumption, by assumption, by k_places, by k_places, by k_places, by k_places, by k_places, by assumption, by omega, rfl, tot _ _ ho (by assumption)⟩)
end
section
-- LoopH
local macro_rules | `(tactic| walk_at "pad") => `(tactic| fail)
local macro_rules | `(tactic| walk_at "call builtin:len") => `(tactic| (k_here; (with_reducible show wpAny _ _ (call (Value.builtin "len") [Value.ref _]) _ _ _); k_dflt (refine' len_lst (News.isList ?N ?m) ?f ?_; (case N => k_asm); (case m => k_mem); (case f => assumption)); intro u9 tk9))
local macro_rules | `(tactic| walk_at "last subscriptTail") => `(tactic| (k_here; k_dflt (refine' item_litK (News.isList ?N ?m) ?h0 ?h1 ?h2 ?_ ?s; (case N => k_asm); (case m => k_mem); (case h0 => omega); (case h1 => omega); (case h2 => assumption); (case s => with_unfolding_all rfl))))
set_option maxRecDepth 100000 in
set_option maxHeartbeats 8000000 in
theorem loop6 (w : World) (mean : ExcName → Option Value) (mg mb : Str → Option Value) (fa L : Addr) (cd : Value) (base h₀ : Heap) (m : Str → Option Value) (news : List (Addr × Obj)) (s : Shared) (Q : Flow → Shared → Prop) (E : Value → Shared → Prop)
    (B : Below callerA base [] h₀) (F : Fr h₀ L s.heap m) (X : (K0 w.params).In h₀) (N : News h₀ L s.heap news) (T : Top view0 (looseW view0 [Str.ofString "ParseState"]) mean mg mb h₀)
    (hret : ∀ t tk' h', Fr h₀ L h' (fun y => if y = Str.ofString "count" then some (.int 0 t) else m y) → News h₀ L h' news → Q .next { s with heap := h', toks := tk' }) :
    wpAny (model Challenge.rw_ok0055_01.row.prog w) (callerA.deeper (envLaw L fa cd)) (exec (loopBody.getD 6 (.Pass ⟨0, 0, 0, 0⟩)) (envLaw L fa cd)) Q E s := by
  w_on
  revert X
  k_fill
  intro X
  unfold envLaw
  obtain ⟨sc, hsc⟩ : ∃ sc, sc = lawScope := ⟨_, rfl⟩
  rw [← hsc]
  conv at hsc => rhs; whnf
  subst hsc
  conv => arg 3; arg 1; whnf
  w_strict (
    k_steps
    exact hret _ _ _ (by k_asm) (by k_asm))
theorem kind_ok : ∀ c ∈ kindsL, PyData.strOk (sgn c) = true := by decide +kernel
theorem in_esc {prog : Program} {w : World} {A : Around} {E : Value → Shared → Prop} {s : Shared} {h₀ : Heap} {L a : Addr} {m : Str → Option Value} {news : List (Addr × Obj)} {c : Nat} {t t1 t2 : Tok} {e : Nat} {Q : Value → Shared → Prop} (F : Fr h₀ L s.heap m) (N : News h₀ L s.heap news) (hm : (a, tupOf #[.str (Str.ofString "\\") t1, .str (Str.ofString "/") t2] e) ∈ news) (hc : c ∈ kindsL) (hu : A.units + 65 < cLine)
    (h : Q (.bool (c == 92 || c == 47)) s) : wpAny (model prog w) A (compareOp .In (.str (sgn c) t) (.ref a)) Q E s := by
  have e1 : Str.ofString "\\" = sgn 92 := by decide +kernel
  have e2 : Str.ofString "/" = sgn 47 := by decide +kernel
  refine in_tuple_viaB (xs := [.str (Str.ofString "\\"), .str (Str.ofString "/")]) (d := .str (sgn c)) 0 (fun g _ hg => ⟨_, .tuple (hg _ hm) rfl rfl (.cons (.str _ _) (.cons (.str _ _) .nil))⟩) (fun _ _ _ => ⟨_, .str _ _⟩) F N (by decide +kernel) (by simpa only [PyData.canLay0] using kind_ok c hc) (Nat.le_refl 0) (by omega) ?_
  simp only [List.any_cons, List.any_nil, PyData.eqv, e1, e2, sgn_beq, Bool.or_false]
  rw [show (92 == c) = (c == 92) from Bool.beq_comm .., show (47 == c) = (c == 47) from Bool.beq_comm ..]
  exact h
noncomputable def Law8 (w : World) (news : List (Addr × Obj)) (mvs : List Value) (bs : Int) (oAt : Int → Option (Nat × List Nat)) : Prop :=
  (∀ i : Int, 0 ≤ i → i < mvs.length → ∃ ad c l t1 t3 e, c ∈ kindsL ∧ mvs[i.toNat]? = some (.ref ad) ∧ (ad, tupOf #[.str (sgn c) t1, .str (txt l) t3] e) ∈ news ∧ oAt (bs + i) = some (c, l)) ∧
  (∀ i : Int, ¬ (0 ≤ i ∧ i < mvs.length) → oAt (bs + i) = none)
noncomputable def WI (news : List (Addr × Obj)) (a bs : Int) (oAt : Int → Option (Nat × List Nat)) (m₀ : Str → Option Value) (g : Heap) (L : Addr) (s : Shared) (n : Nat) (s1 : Shared) : Prop :=
  ∃ (h : Heap) (t9 : Nat) (k : Int) (tk1 : Tok) (m' : Str → Option Value), s1 = { heap := h, gens := s.gens, drawn := s.drawn, toks := t9, os := s.os } ∧ Fr g L h m' ∧ News g L h news ∧ (∀ y, y ≠ Str.ofString "count" → m' y = m₀ y) ∧ m' (Str.ofString "count") = some (.int k tk1) ∧ 0 ≤ k ∧ k < 50 ∧ k ≤ a + 1 ∧ n = (a - k).toNat ∧ k + esc oAt n (bs + (a - 1 - k)) = esc oAt a.toNat (bs + (a - 1))
set_option maxRecDepth 100000 in
set_option maxHeartbeats 1500000 in
theorem loop7 (w : World) (mean : ExcName → Option Value) (mg mb : Str → Option Value) (fa L rl mk : Addr) (cd : Value) (rvs mvs : List Value) (bs : Int) (oAt : Int → Option (Nat × List Nat)) (base h₀ : Heap) (m : Str → Option Value) (a : Int) (ta tc : Tok) (news : List (Addr × Obj)) (s : Shared) (Q : Flow → Shared → Prop)
    (B : Below callerA base [] h₀) (F : Fr h₀ L s.heap m) (X : (K0 w.params).In h₀) (N : News h₀ L s.heap news) (T : Top view0 (looseW view0 [Str.ofString "ParseState"]) mean mg mb h₀)
    (g1 : (rl, LCg.lst rvs) ∈ news) (g2 : (mk, LCg.lst mvs) ∈ news) (hl1 : rvs.length < 8) (hl2 : mvs.length = rvs.length) (ha0 : -2 < a) (ha1 : a < 20) (h8 : Law8 w news mvs bs oAt)
    (hm1 : m (Str.ofString "row") = some (.ref rl)) (hm2 : m (Str.ofString "marks") = some (.ref mk)) (hm3 : m (Str.ofString "at") = some (.int a ta)) (hm4 : m (Str.ofString "count") = some (.int 0 tc))
    (hret : ∀ t m' tk' h', (∀ y, y ≠ Str.ofString "count" → m' y = m y) → m' (Str.ofString "count") = some (.int (esc oAt a.toNat (bs + (a - 1))) t) → Fr h₀ L h' m' → News h₀ L h' news → Q .next { s with heap := h', toks := tk' }) :
    wpAny (model Challenge.rw_ok0055_01.row.prog w) (callerA.deeper (envLaw L fa cd)) (exec (loopBody.getD 7 (.Pass ⟨0, 0, 0, 0⟩)) (envLaw L fa cd)) Q (fun _ _ => False) s := by
  w_on
  revert X
  k_fill
  intro X
  unfold envLaw
  obtain ⟨sc, hsc⟩ : ∃ sc, sc = lawScope := ⟨_, rfl⟩
  rw [← hsc]
  conv at hsc => rhs; whnf
  subst hsc
  conv => arg 3; arg 1; whnf
  w_strict (
    refine' whl_start 100 (whl_induct (by passes_own) (WI news a bs oAt m h₀ L s) ?step a.toNat _ ?init)
    case init => exact ⟨_, _, 0, _, m, rfl, F, N, fun _ _ => rfl, hm4, by omega, by omega, by omega, by omega, by simp⟩
    case step =>
      intro n s1 hI1
      obtain ⟨h9, t9, k, tk1, m', rfl, F9, N9, hm', hcnt, hk0, hk1, hk2, hn, htot⟩ := hI1
      have hm1' : m' (Str.ofString "row") = some (.ref rl) := by rw [hm' _ (by decide)]; exact hm1
      have hm2' : m' (Str.ofString "marks") = some (.ref mk) := by rw [hm' _ (by decide)]; exact hm2
      have hm3' : m' (Str.ofString "at") = some (.int a ta) := by rw [hm' _ (by decide)]; exact hm3
      by_cases hin : 0 ≤ a - 1 - k ∧ a - 1 - k < mvs.length
      · obtain ⟨ad, c, l, t1, t3, e, hck, hg, hmem, ho⟩ := h8.1 _ hin.1 hin.2
        iterate 50 (first | (with_reducible show wpAny _ _ (compareOp CmpOp.In _ _) _ _ _) | (k_unfold; (try dsimp only)) | (walk1; (try dsimp only)) | (dsimp only; walk1))
        refine in_esc (by k_asm) (by k_asm) (by k_mem) hck (by ktr_units) ?_
        have tot : (c == 92 || c == 47) = true → k + 1 + esc oAt (a - (k + 1)).toNat (bs + (a - 1 - (k + 1))) = esc oAt a.toNat (bs + (a - 1)) := by
          intro he
          have e1 : n = (a - (k + 1)).toNat + 1 := by omega
          have e2 : isE (oAt (bs + (a - 1 - k))) = true := by rw [ho]; exact he
          rw [e1, esc_yes e2] at htot
          have e3 : bs + (a - 1 - (k + 1)) = bs + (a - 1 - k) - 1 := by omega
          rw [← htot, e3]; omega
        have stop : (c == 92 || c == 47) = false → k = esc oAt a.toNat (bs + (a - 1)) := by
          intro he
          have hz : esc oAt n (bs + (a - 1 - k)) = 0 := esc_no (by rw [ho]; exact he)
          rw [← htot, hz, Int.add_zero]
        generalize hb : (c == 92 || c == 47) = b9 at tot stop
        cases b9
        · k_steps
          exact hret tk1 m' _ _ hm' (by rw [← stop rfl]; exact hcnt) (by k_asm) (news_sub (by k_asm) fun p hp => .tail _ hp)
        · k_steps
          rotate_left 2
          · exact (a - (k + 1)).toNat
          · omega
          · exact ⟨_, _, k + 1, _, _, rfl, by assumption, news_sub (by assumption) (fun p hp => .tail _ hp), fun y hy => (if_neg hy).trans (hm' y hy), if_pos rfl, by omega, by omega, by omega, rfl, tot rfl⟩
      · have ho := h8.2 _ hin
        have stop : k = esc oAt a.toNat (bs + (a - 1)) := by
          have hz : esc oAt n (bs + (a - 1 - k)) = 0 := esc_no (by rw [ho]; rfl)
          rw [← htot, hz, Int.add_zero]
        by_cases hlo : 0 ≤ a - 1 - k
        · have hhi : ¬ a - 1 - k < rvs.length := by omega
          k_steps
          exact hret tk1 m' _ _ hm' (by rw [← stop]; exact hcnt) (by k_asm) (by k_asm)
        · k_steps
          exact hret tk1 m' _ _ hm' (by rw [← stop]; exact hcnt) (by k_asm) (by k_asm))
end
section
-- LoopI
set_option maxRecDepth 100000 in
set_option maxHeartbeats 4000000 in
theorem loop8 (w : World) (mean : ExcName → Option Value) (mg mb : Str → Option Value) (fa L : Addr) (cd : Value) {vw vd cds : Addr} {bs : Int} {cvs : List Value} {row : List Int} {e : Nat} {a1 a2 a3 : Tok} {tb td rw : Addr} {ro : Obj} {kvs : List (Int × Value)} {u1 u2 : Tok} {oAt : Int → Option (Nat × List Nat)} (a K : Int) (ta tbs tc : Tok) (base h₀ : Heap) (m : Str → Option Value) (news : List (Addr × Obj)) (s : Shared) (Q : Flow → Shared → Prop) (E : Value → Shared → Prop)
    (B : Below callerA base [] h₀) (F : Fr h₀ L s.heap m) (X : (K0 w.params).In h₀) (N : News h₀ L s.heap news) (T : Top view0 (looseW view0 [Str.ofString "ParseState"]) mean mg mb h₀)
    (lw : LW w news vw vd cds bs cvs row e a1 a2 a3 tb td rw ro kvs u1 u2) (ha0 : -2 < a) (ha1 : a < 20) (hall : ∀ q, SynAt w news kvs row bs q (oAt q))
    (hK : K = esc oAt a.toNat (bs + (a - 1)))
    (hm1 : m (Str.ofString "view") = some (.ref vw)) (hm2 : m (Str.ofString "table") = some (.ref tb)) (hm3 : m (Str.ofString "base") = some (.int bs tbs)) (hm4 : m (Str.ofString "at") = some (.int a ta)) (hm5 : m (Str.ofString "count") = some (.int K tc))
    (hret : ∀ tk' h', Fr h₀ L h' m → News h₀ L h' news → Q .next { s with heap := h', toks := tk' }) :
    wpAny (model Challenge.rw_ok0055_01.row.prog w) (callerA.deeper (envLaw L fa cd)) (exec (loopBody.getD 8 (.Pass ⟨0, 0, 0, 0⟩)) (envLaw L fa cd)) Q E s := by
  w_on
  revert X
  k_fill
  intro X
  unfold envLaw
  obtain ⟨sc, hsc⟩ : ∃ sc, sc = lawScope := ⟨_, rfl⟩
  rw [← hsc]
  conv at hsc => rhs; whnf
  subst hsc
  conv => arg 3; arg 1; whnf
  have q0 := lw.hb0
  have q1 := lw.hb1
  have q2 := lw.hr
  w_strict (
    iterate 40 (first | (with_reducible show wpAny _ _ (call (Value.ref 234) _) _ _ _) | (k_unfold; (try dsimp only)) | walk1 | (dsimp only; walk1))
    k_dflt (refine Ctr.use (quoted_ok lw.h1 lw.h2 lw.h3 lw.hI (by omega) q0 (by omega) (by omega) (by omega) lw.g1 lw.g2 lw.g3 lw.hro lw.hlo hall) (by k_asm) (by k_asm) (by k_asm) N (by k_asm) (by first | exact rfl | assumption) (by ktr_room) (by ktr_units) ?_)
    rintro r1 n1 h1 tk1 F1 N1 ⟨rfl, rfl⟩
    rw [show bs + a - 1 - bs + 1 = a by omega, show bs + a - 1 = bs + (a - 1) by omega, ← hK]
    k_steps
    · exfalso
      rename ((_ != _) = true) => q9
      rw [bne_self_eq_false] at q9
      cases q9
    · exact hret _ _ (by k_asm) (by k_asm))
end
section
-- Turn
noncomputable def NoCell (p : Addr × Obj) : Prop := ∀ v, p.2.data ≠ .cell v
theorem TupAt.but {news news' : List (Addr × Obj)} {v : Value} {md : MD} (h : TupAt news v md) (hs : ∀ p ∈ news, NoCell p → p ∈ news') : TupAt news' v md := by
  rcases md with _ | ⟨n, st, ne, fe⟩
  · exact h
  · obtain ⟨t, t1, t2, e, rfl, hm⟩ := h
    exact ⟨t, t1, t2, e, rfl, hs _ hm (fun v hv => by cases hv)⟩
theorem MarkAt.but {w : World} {news news' : List (Addr × Obj)} {v : Value} {md : MD} (h : MarkAt w news v md) (hs : ∀ p ∈ news, NoCell p → p ∈ news') : MarkAt w news' v md := by
  rcases md with _ | ⟨n, st, ne, fe⟩
  · exact h
  · obtain ⟨mk, dm, u1, u2, u3, u4, t1, t2, rfl, h1, h2⟩ := h
    exact ⟨mk, dm, u1, u2, u3, u4, t1, t2, rfl, hs _ h1 (fun v hv => by cases hv), hs _ h2 (fun v hv => by cases hv)⟩
theorem nine {l : List Stmt} {d : Stmt} (h : l.length = 9) : l = [l.getD 0 d, l.getD 1 d, l.getD 2 d, l.getD 3 d, l.getD 4 d, l.getD 5 d, l.getD 6 d, l.getD 7 d, l.getD 8 d] := by
  match l, h with
  | [_, _, _, _, _, _, _, _, _], _ => rfl
theorem eight {l : List Stmt} {d : Stmt} (h : l.length = 8) : l = [l.getD 0 d, l.getD 1 d, l.getD 2 d, l.getD 3 d, l.getD 4 d, l.getD 5 d, l.getD 6 d, l.getD 7 d] := by
  match l, h with
  | [_, _, _, _, _, _, _, _], _ => rfl
theorem loopBody_len : loopBody.length = 9 := by rfl
theorem lawBody_len : lawBody.length = 8 := by rfl
end
section
-- Turn2
section
variable {M : Model} {A : Around} {E : Value → Shared → Prop} {s : Shared} {env : Env}
theorem execs_go {st : Stmt} {rest : List Stmt} {Q : Flow → Shared → Prop} (h : ∀ Q' : Flow → Shared → Prop, (∀ s', wpAny M A (execs rest env) Q E s' → Q' .next s') → wpAny M A (exec st env) Q' E s) :
    wpAny M A (execs (st :: rest) env) Q E s :=
  wpAny_execs_cons (h _ fun s' hs => hs)
end
theorem appC {A B : List (Addr × Obj)} {c3 c4 c5 i : Addr × Obj} (h3 : ¬ NoCell c3) (h4 : ¬ NoCell c4) (h5 : ¬ NoCell c5) : ∀ p ∈ A ++ i :: c3 :: c4 :: c5 :: B, NoCell p → p ∈ A ++ i :: B := by
  intro p hp hc
  rcases List.mem_append.mp hp with hp | hp
  · exact List.mem_append_left _ hp
  · refine List.mem_append_right _ ?_
    rcases List.mem_cons.mp hp with rfl | hp
    · exact .head _
    · rcases List.mem_cons.mp hp with rfl | hp
      · exact absurd hc h3
      · rcases List.mem_cons.mp hp with rfl | hp
        · exact absurd hc h4
        · rcases List.mem_cons.mp hp with rfl | hp
          · exact absurd hc h5
          · exact .tail _ hp
theorem cell_no {p : Addr × Obj} {v : Option Value} (h : p.2.data = .cell v) : ¬ NoCell p := fun k => k v h
theorem Law8.mono {w : World} {news news' : List (Addr × Obj)} {mvs : List Value} {bs : Int} {oAt : Int → Option (Nat × List Nat)} (h : Law8 w news mvs bs oAt) (hs : ∀ p ∈ news, p ∈ news') : Law8 w news' mvs bs oAt :=
  ⟨fun i h0 h1 => by
    obtain ⟨ad, c, l, t1, t3, e, k1, k2, k3, k4⟩ := h.1 i h0 h1
    exact ⟨ad, c, l, t1, t3, e, k1, k2, hs _ k3, k4⟩, h.2⟩
end
section
-- Turn3
set_option maxRecDepth 100000

theorem ifo {x y : Str} {v : Value} {m : Str → Option Value} {u : Option Value} (h : x ≠ y) (k : m x = u) : (fun z => if z = y then some v else m z) x = u := (if_neg h).trans k
set_option maxHeartbeats 4000000 in
theorem turn6 (w : World) (mean : ExcName → Option Value) (mg mb : Str → Option Value) (fa L : Addr) (cd : Value) {vw vd cds : Addr} {bs : Int} {cvs : List Value} {row : List Int} {e : Nat} {a1 a2 a3 : Tok} {tb td rw : Addr} {ro : Obj} {kvs : List (Int × Value)} {u1 u2 : Tok} {oAt : Int → Option (Nat × List Nat)} {rl mk : Addr} {rvs mvs : List Value} (a : Int) (ta tbs : Tok) (base h₀ : Heap) (m : Str → Option Value) (I : Addr) (oI o3 o4 o5 : Obj) (v3 v4 v5 : Option Value) (R : List (Addr × Obj)) (s : Shared) (Q : Flow → Shared → Prop)
    (B : Below callerA base [] h₀) (X : (K0 w.params).In h₀) (T : Top view0 (looseW view0 [Str.ofString "ParseState"]) mean mg mb h₀)
    (F : Fr h₀ L s.heap m) (N : News h₀ L s.heap ((I, oI) :: (L + 1 + 1 + 1, o3) :: (L + 1 + 1 + 1 + 1, o4) :: (L + 1 + 1 + 1 + 1 + 1, o5) :: R))
    (c3 : o3.data = .cell v3) (c4 : o4.data = .cell v4) (c5 : o5.data = .cell v5)
    (hI : I ≠ L + 1 + 1 + 1 ∧ I ≠ L + 1 + 1 + 1 + 1 ∧ I ≠ L + 1 + 1 + 1 + 1 + 1) (hn : ∀ p ∈ R, p.1 ≠ L + 1 + 1 + 1 ∧ p.1 ≠ L + 1 + 1 + 1 + 1 ∧ p.1 ≠ L + 1 + 1 + 1 + 1 + 1)
    (lw : LW w R vw vd cds bs cvs row e a1 a2 a3 tb td rw ro kvs u1 u2) (g1 : (rl, LCg.lst rvs) ∈ R) (g2 : (mk, LCg.lst mvs) ∈ R) (hl1 : rvs.length < 8) (hl2 : mvs.length = rvs.length) (ha0 : -2 < a) (ha1 : a < 20)
    (sg : ∀ i, SgAt R (atV mvs i) (oAt (bs + i))) (sy : ∀ q, SynAt w R kvs row bs q (oAt q)) (h8 : Law8 w R mvs bs oAt)
    (ok1 : ∀ p q, mdOk (markF 49 50 60 true (oAt p) (oAt q))) (ok2 : ∀ p q, mdOk (markF 51 52 62 false (oAt p) (oAt q)))
    (hm1 : m (Str.ofString "row") = some (.ref rl)) (hm2 : m (Str.ofString "marks") = some (.ref mk)) (hm3 : m (Str.ofString "at") = some (.int a ta)) (hm4 : m (Str.ofString "view") = some (.ref vw)) (hm5 : m (Str.ofString "table") = some (.ref tb)) (hm6 : m (Str.ofString "base") = some (.int bs tbs))
    (hret : ∀ m' o3' o4' o5' v3' v4' v5' h' tk', (∀ y, y ≠ Str.ofString "one" → y ≠ Str.ofString "other" → y ≠ Str.ofString "due" → y ≠ Str.ofString "found" → y ≠ Str.ofString "wanted" → y ≠ Str.ofString "count" → m' y = m y) → o3'.data = .cell v3' → o4'.data = .cell v4' → o5'.data = .cell v5' → Fr h₀ L h' m' →
      News h₀ L h' ((I, oI) :: (L + 1 + 1 + 1, o3') :: (L + 1 + 1 + 1 + 1, o4') :: (L + 1 + 1 + 1 + 1 + 1, o5') :: R) → Q .next { s with heap := h', toks := tk' }) :
    wpAny (model Challenge.rw_ok0055_01.row.prog w) (callerA.deeper (envLaw L fa cd)) (execs loopBody (envLaw L fa cd)) Q (fun _ _ => False) s := by
  rw [nine (d := .Pass ⟨0, 0, 0, 0⟩) loopBody_len]
  have up0 : ∀ p ∈ R, p ∈ (I, oI) :: (L + 1 + 1 + 1, o3) :: (L + 1 + 1 + 1 + 1, o4) :: (L + 1 + 1 + 1 + 1 + 1, o5) :: R := fun p hp => .tail _ (.tail _ (.tail _ (.tail _ hp)))
  have sg2 : SgAt R (atV mvs (a + 1)) (oAt (bs + a + 1)) := by rw [Int.add_assoc]; exact sg (a + 1)
  refine wpAny_execs_cons ?_
  refine loop0 w mean mg mb fa L rl mk cd rvs mvs base h₀ m a ta _ s _ _ B F X N T (up0 _ g1) (up0 _ g2) hl1 hl2 ha0 ha1 hm1 hm2 hm3 ?_
  intro tk1 h1 F1 N1
  refine wpAny_execs_cons ?_
  refine loop1 w mean mg mb fa L rl mk cd rvs mvs base h₀ _ a ta _ _ _ _ B F1 X N1 T (up0 _ g1) (up0 _ g2) hl1 hl2 ha0 ha1 (by rw [if_neg (by decide)]; exact hm1) (by rw [if_neg (by decide)]; exact hm2) (by rw [if_neg (by decide)]; exact hm3) ?_
  intro tk2 h2 F2 N2
  refine wpAny_execs_cons ?_
  refine loop2 w mean mg mb fa L cd _ _ _ _ base h₀ _ _ _ _ _ B F2 X N2 T ((sg a).mono up0) (sg2.mono up0) (by rw [if_neg (by decide), if_pos rfl]) (by rw [if_pos rfl]) ?_
  intro D1 r1 r2 n2 tk3 h3 e2 t1 t2 l1 F3 N3
  obtain ⟨x2, rfl, lt2⟩ := e2
  have up2 : ∀ p ∈ R, p ∈ (D1, listOf #[r1, r2] 0) :: (x2 ++ (I, oI) :: (L + 1 + 1 + 1, o3) :: (L + 1 + 1 + 1 + 1, o4) :: (L + 1 + 1 + 1 + 1 + 1, o5) :: R) := fun p hp => .tail _ (List.mem_append_right _ (up0 p hp))
  refine wpAny_execs_cons ?_
  refine loop3 w mean mg mb fa L cd _ _ a ta tbs base h₀ _ _ _ _ _ B F3 X N3 T (lw.mono up2) ha0 ha1 ((sy _).mono up2) ((sy _).mono up2) ?m1 ?m2 ?m3 ?m4 ?_
  case m1 => rw [if_neg (by decide), if_neg (by decide), if_neg (by decide)]; exact hm4
  case m2 => rw [if_neg (by decide), if_neg (by decide), if_neg (by decide)]; exact hm5
  case m3 => rw [if_neg (by decide), if_neg (by decide), if_neg (by decide)]; exact hm6
  case m4 => rw [if_neg (by decide), if_neg (by decide), if_neg (by decide)]; exact hm3
  intro D2 f1 f2 n3 tk4 h4 e3 k1 k2 l2 F4 N4
  obtain ⟨x3, rfl, lt3⟩ := e3
  have inD1 : (D1, listOf #[r1, r2] 0) ∈ (D2, listOf #[f1, f2] 0) :: (x3 ++ (D1, listOf #[r1, r2] 0) :: (x2 ++ (I, oI) :: (L + 1 + 1 + 1, o3) :: (L + 1 + 1 + 1 + 1, o4) :: (L + 1 + 1 + 1 + 1 + 1, o5) :: R)) := .tail _ (List.mem_append_right _ (.head _))
  have up3 : ∀ p ∈ x2 ++ (I, oI) :: (L + 1 + 1 + 1, o3) :: (L + 1 + 1 + 1 + 1, o4) :: (L + 1 + 1 + 1 + 1 + 1, o5) :: R, p ∈ (D2, listOf #[f1, f2] 0) :: (x3 ++ (D1, listOf #[r1, r2] 0) :: (x2 ++ (I, oI) :: (L + 1 + 1 + 1, o3) :: (L + 1 + 1 + 1 + 1, o4) :: (L + 1 + 1 + 1 + 1 + 1, o5) :: R)) := fun p hp => .tail _ (List.mem_append_right _ (.tail _ hp))
  refine wpAny_execs_cons ?_
  refine loop4 w mean mg mb fa L D2 D1 cd f1 f2 r1 r2 _ _ 0 0 base h₀ _ _ _ _ _ B F4 X N4 T (.head _) inD1 (k1.mono fun p hp => .tail _ hp) (k2.mono fun p hp => .tail _ hp) (t1.mono up3) (t2.mono up3) (ok1 _ _) (ok2 _ _) ?m5 ?m6 ?_
  case m5 => rw [if_pos rfl]
  case m6 => rw [if_neg (by decide), if_pos rfl]
  intro tk5 h5 F5 N5
  have inC3 : (L + 1 + 1 + 1, o3) ∈ x2 ++ (I, oI) :: (L + 1 + 1 + 1, o3) :: (L + 1 + 1 + 1 + 1, o4) :: (L + 1 + 1 + 1 + 1 + 1, o5) :: R := List.mem_append_right _ (.tail _ (.head _))
  have inC4 : (L + 1 + 1 + 1 + 1, o4) ∈ x2 ++ (I, oI) :: (L + 1 + 1 + 1, o3) :: (L + 1 + 1 + 1 + 1, o4) :: (L + 1 + 1 + 1 + 1 + 1, o5) :: R := List.mem_append_right _ (.tail _ (.tail _ (.head _)))
  have inC5 : (L + 1 + 1 + 1 + 1 + 1, o5) ∈ x2 ++ (I, oI) :: (L + 1 + 1 + 1, o3) :: (L + 1 + 1 + 1 + 1, o4) :: (L + 1 + 1 + 1 + 1 + 1, o5) :: R := List.mem_append_right _ (.tail _ (.tail _ (.tail _ (.head _))))
  obtain ⟨n5, hn5⟩ : ∃ n5, n5 = (D2, listOf #[f1, f2] 0) :: (x3 ++ (D1, listOf #[r1, r2] 0) :: (x2 ++ (I, oI) :: R)) := ⟨_, rfl⟩
  have nc3 : ¬ NoCell (L + 1 + 1 + 1, o3) := fun k => k _ c3
  have nc4 : ¬ NoCell (L + 1 + 1 + 1 + 1, o4) := fun k => k _ c4
  have nc5 : ¬ NoCell (L + 1 + 1 + 1 + 1 + 1, o5) := fun k => k _ c5
  have low : ∀ p ∈ x2 ++ (I, oI) :: (L + 1 + 1 + 1, o3) :: (L + 1 + 1 + 1 + 1, o4) :: (L + 1 + 1 + 1 + 1 + 1, o5) :: R, NoCell p → p ∈ x2 ++ (I, oI) :: R := appC nc3 nc4 nc5
  have mid : ∀ p ∈ x3 ++ (D1, listOf #[r1, r2] 0) :: (x2 ++ (I, oI) :: (L + 1 + 1 + 1, o3) :: (L + 1 + 1 + 1 + 1, o4) :: (L + 1 + 1 + 1 + 1 + 1, o5) :: R), NoCell p → p ∈ n5 := by
    intro p hp hc
    rw [hn5]
    refine .tail _ ?_
    rcases List.mem_append.mp hp with hp | hp
    · exact List.mem_append_left _ hp
    · refine List.mem_append_right _ ?_
      rcases List.mem_cons.mp hp with rfl | hp
      · exact .head _
      · exact .tail _ (low p hp hc)
  have lowM : ∀ p ∈ x2 ++ (I, oI) :: (L + 1 + 1 + 1, o3) :: (L + 1 + 1 + 1 + 1, o4) :: (L + 1 + 1 + 1 + 1 + 1, o5) :: R, NoCell p → p ∈ n5 := fun p hp hc => mid p (List.mem_append_right _ (.tail _ hp)) hc
  have upR : ∀ p ∈ (I, oI) :: R, p ∈ n5 := fun p hp => by rw [hn5]; exact .tail _ (List.mem_append_right _ (.tail _ (List.mem_append_right _ hp)))
  have back : ∀ p ∈ n5, p ∈ (D2, listOf #[f1, f2] 0) :: (x3 ++ (D1, listOf #[r1, r2] 0) :: (x2 ++ (I, oI) :: (L + 1 + 1 + 1, o3) :: (L + 1 + 1 + 1 + 1, o4) :: (L + 1 + 1 + 1 + 1 + 1, o5) :: R)) := by
    intro p hp
    rw [hn5] at hp
    rcases List.mem_cons.mp hp with rfl | hp
    · exact .head _
    · refine .tail _ ?_
      rcases List.mem_append.mp hp with hp | hp
      · exact List.mem_append_left _ hp
      · refine List.mem_append_right _ ?_
        rcases List.mem_cons.mp hp with rfl | hp
        · exact .head _
        · refine .tail _ ?_
          rcases List.mem_append.mp hp with hp | hp
          · exact List.mem_append_left _ hp
          · refine List.mem_append_right _ ?_
            rcases List.mem_cons.mp hp with rfl | hp
            · exact .head _
            · exact .tail _ (.tail _ (.tail _ (.tail _ hp)))
  have off5 : ∀ p ∈ n5, p.1 ≠ L + 1 + 1 + 1 ∧ p.1 ≠ L + 1 + 1 + 1 + 1 ∧ p.1 ≠ L + 1 + 1 + 1 + 1 + 1 := by
    have hi : ∀ p : Addr × Obj, (∀ q ∈ x2 ++ (I, oI) :: (L + 1 + 1 + 1, o3) :: (L + 1 + 1 + 1 + 1, o4) :: (L + 1 + 1 + 1 + 1 + 1, o5) :: R, q.1 < p.1) → p.1 ≠ L + 1 + 1 + 1 ∧ p.1 ≠ L + 1 + 1 + 1 + 1 ∧ p.1 ≠ L + 1 + 1 + 1 + 1 + 1 :=
      fun p hq => ⟨Nat.ne_of_gt (hq _ inC3), Nat.ne_of_gt (hq _ inC4), Nat.ne_of_gt (hq _ inC5)⟩
    intro p hp
    rw [hn5] at hp
    rcases List.mem_cons.mp hp with rfl | hp
    · exact hi _ fun q hq => l2 q (List.mem_append_right _ (.tail _ hq))
    · rcases List.mem_append.mp hp with hp | hp
      · exact hi _ fun q hq => lt3 p hp q (.tail _ hq)
      · rcases List.mem_cons.mp hp with rfl | hp
        · exact hi _ fun q hq => l1 q hq
        · rcases List.mem_append.mp hp with hp | hp
          · exact ⟨Nat.ne_of_gt (lt2 p hp _ (.tail _ (.head _))), Nat.ne_of_gt (lt2 p hp _ (.tail _ (.tail _ (.head _)))), Nat.ne_of_gt (lt2 p hp _ (.tail _ (.tail _ (.tail _ (.head _)))))⟩
          · rcases List.mem_cons.mp hp with rfl | hp
            · exact hI
            · exact hn p hp
  have up5 : ∀ q ∈ x2 ++ (I, oI) :: (L + 1 + 1 + 1, o3) :: (L + 1 + 1 + 1 + 1, o4) :: (L + 1 + 1 + 1 + 1 + 1, o5) :: R, q ∈ (D2, listOf #[f1, f2] 0) :: (x3 ++ (D1, listOf #[r1, r2] 0) :: (x2 ++ (I, oI) :: (L + 1 + 1 + 1, o3) :: (L + 1 + 1 + 1 + 1, o4) :: (L + 1 + 1 + 1 + 1 + 1, o5) :: R)) := fun q hq => .tail _ (List.mem_append_right _ (.tail _ hq))
  have N5' : News h₀ L h5 ((L + 1 + 1 + 1, o3) :: (L + 1 + 1 + 1 + 1, o4) :: (L + 1 + 1 + 1 + 1 + 1, o5) :: n5) :=
    news_sub N5 (List.forall_mem_cons.mpr ⟨up5 _ inC3, List.forall_mem_cons.mpr ⟨up5 _ inC4, List.forall_mem_cons.mpr ⟨up5 _ inC5, back⟩⟩⟩)
  have inD2 : (D2, listOf #[f1, f2] 0) ∈ n5 := by rw [hn5]; exact .head _
  have inD1' : (D1, listOf #[r1, r2] 0) ∈ n5 := by rw [hn5]; exact .tail _ (List.mem_append_right _ (.head _))
  refine wpAny_execs_cons ?_
  have k1' := MarkAt.but k1 mid
  have k2' := MarkAt.but k2 mid
  have t1' := TupAt.but t1 lowM
  have t2' := TupAt.but t2 lowM
  have q1 := ok1 (bs + a) (bs + a + 1)
  have q2 := ok2 (bs + a) (bs + a + 1)
  refine @loop5 w mean mg mb fa L D2 D1 cd f1 f2 r1 r2 _ _ 0 0 base h₀ _ o3 o4 o5 v3 v4 v5 n5 _ _ B F5 X N5' T c3 c4 c5 inD2 inD1' k1' k2' t1' t2' q1 q2 ?m7 ?m8 off5 ?_
  case m7 => rw [if_pos rfl]
  case m8 => rw [if_neg (by decide), if_pos rfl]
  intro m6 o3' o4' o5' v3' v4' v5' h6 tk6 hm6' c3' c4' c5' F6 N6
  have N6' : News h₀ L h6 ((I, oI) :: (L + 1 + 1 + 1, o3') :: (L + 1 + 1 + 1 + 1, o4') :: (L + 1 + 1 + 1 + 1 + 1, o5') :: R) :=
    news_sub N6 (List.forall_mem_cons.mpr ⟨.tail _ (.tail _ (.tail _ (upR _ (.head _)))), List.forall_mem_cons.mpr ⟨.head _, List.forall_mem_cons.mpr ⟨.tail _ (.head _), List.forall_mem_cons.mpr ⟨.tail _ (.tail _ (.head _)), fun p hp => .tail _ (.tail _ (.tail _ (upR p (.tail _ hp))))⟩⟩⟩⟩)
  have up6 : ∀ p ∈ R, p ∈ (I, oI) :: (L + 1 + 1 + 1, o3') :: (L + 1 + 1 + 1 + 1, o4') :: (L + 1 + 1 + 1 + 1 + 1, o5') :: R := fun p hp => .tail _ (.tail _ (.tail _ (.tail _ hp)))
  have keep6 : ∀ y, y ≠ Str.ofString "one" → y ≠ Str.ofString "other" → y ≠ Str.ofString "due" → y ≠ Str.ofString "found" → y ≠ Str.ofString "wanted" → m6 y = m y := by
    intro y e1 e2 e3 e4 e5
    rw [hm6' y e5, if_neg e4, if_neg e3, if_neg e2, if_neg e1]
  clear N6 N5' N5 N4 N3 N2 N1 F5 F4 F3 F2 F1
  refine wpAny_execs_cons ?_
  refine loop6 w mean mg mb fa L cd base h₀ m6 _ _ _ _ B F6 X N6' T ?_
  intro tc tk7 h7 F7 N7
  refine wpAny_execs_cons ?_
  refine loop7 w mean mg mb fa L rl mk cd rvs mvs bs oAt base h₀ _ a ta tc _ _ _ B F7 X N7 T (up6 _ g1) (up6 _ g2) hl1 hl2 ha0 ha1 (h8.mono up6) ?m9 ?m10 ?m11 ?m12 ?_
  case m9 => rw [if_neg (by decide), keep6 _ (by decide) (by decide) (by decide) (by decide) (by decide)]; exact hm1
  case m10 => rw [if_neg (by decide), keep6 _ (by decide) (by decide) (by decide) (by decide) (by decide)]; exact hm2
  case m11 => rw [if_neg (by decide), keep6 _ (by decide) (by decide) (by decide) (by decide) (by decide)]; exact hm3
  case m12 => rw [if_pos rfl]
  intro tc8 m8 tk8 h8' hm8 hc8 F8 N8
  have keep8 : ∀ y, y ≠ Str.ofString "one" → y ≠ Str.ofString "other" → y ≠ Str.ofString "due" → y ≠ Str.ofString "found" → y ≠ Str.ofString "wanted" → y ≠ Str.ofString "count" → m8 y = m y := by
    intro y e1 e2 e3 e4 e5 e6
    rw [hm8 y e6, if_neg e6, keep6 y e1 e2 e3 e4 e5]
  refine wpAny_execs_cons ?_
  refine loop8 w mean mg mb fa L cd a _ ta tbs tc8 base h₀ m8 _ _ _ _ B F8 X N8 T (lw.mono up6) ha0 ha1 (fun q => (sy q).mono up6) rfl ?m13 ?m14 ?m15 ?m16 hc8 ?_
  case m13 => rw [keep8 _ (by decide) (by decide) (by decide) (by decide) (by decide) (by decide)]; exact hm4
  case m14 => rw [keep8 _ (by decide) (by decide) (by decide) (by decide) (by decide) (by decide)]; exact hm5
  case m15 => rw [keep8 _ (by decide) (by decide) (by decide) (by decide) (by decide) (by decide)]; exact hm6
  case m16 => rw [keep8 _ (by decide) (by decide) (by decide) (by decide) (by decide) (by decide)]; exact hm3
  intro tk9 h9 F9 N9
  refine wpAny_execs_nil ?_
  exact hret m8 o3' o4' o5' v3' v4' v5' h9 tk9 keep8 c3' c4' c5' F9 N9
end
section
-- Plain
set_option maxRecDepth 100000

noncomputable def pick (r0 r1 r2 r3 r4 : SgE) (x : Int) : SgE := if x = 0 then r0 else if x = 1 then r1 else if x = 2 then r2 else if x = 3 then r3 else r4
noncomputable def oOf (r0 r1 r2 r3 r4 : SgE) (row : List Int) (bs q : Int) : Option (Nat × List Nat) :=
  if bs ≤ q ∧ q < bs + row.length then some ((pick r0 r1 r2 r3 r4 (row.getD (q - bs).toNat 0)).c, (pick r0 r1 r2 r3 r4 (row.getD (q - bs).toNat 0)).l) else none
noncomputable def refs5 (r0 r1 r2 r3 r4 : SgE) : List Value := [.ref r0.a, .ref r1.a, .ref r2.a, .ref r3.a, .ref r4.a]
theorem five {P : Int → Prop} (h0 : P 0) (h1 : P 1) (h2 : P 2) (h3 : P 3) (h4 : P 4) (x : Int) (a : 0 ≤ x) (b : x < 5) : P x := by
  have : x = 0 ∨ x = 1 ∨ x = 2 ∨ x = 3 ∨ x = 4 := by omega
  rcases this with rfl | rfl | rfl | rfl | rfl <;> assumption
section
variable {w : World} {R : List (Addr × Obj)} {r0 r1 r2 r3 r4 : SgE}
structure In5 (R : List (Addr × Obj)) (r0 r1 r2 r3 r4 : SgE) : Prop where
  m0 : r0.ent ∈ R
  m1 : r1.ent ∈ R
  m2 : r2.ent ∈ R
  m3 : r3.ent ∈ R
  m4 : r4.ent ∈ R
  k0 : r0.Ok
  k1 : r1.Ok
  k2 : r2.Ok
  k3 : r3.Ok
  k4 : r4.Ok
theorem In5.pick (g : In5 R r0 r1 r2 r3 r4) (x : Int) (a : 0 ≤ x) (b : x < 5) : (Mine.pick r0 r1 r2 r3 r4 x).ent ∈ R ∧ (Mine.pick r0 r1 r2 r3 r4 x).Ok :=
  five (P := fun x => (Mine.pick r0 r1 r2 r3 r4 x).ent ∈ R ∧ (Mine.pick r0 r1 r2 r3 r4 x).Ok) ⟨g.m0, g.k0⟩ ⟨g.m1, g.k1⟩ ⟨g.m2, g.k2⟩ ⟨g.m3, g.k3⟩ ⟨g.m4, g.k4⟩ x a b
theorem refs5_at (x : Int) (a : 0 ≤ x) (b : x < 5) : (refs5 r0 r1 r2 r3 r4).getD x.toNat .none = .ref (pick r0 r1 r2 r3 r4 x).a :=
  five (P := fun x => (refs5 r0 r1 r2 r3 r4).getD x.toNat .none = .ref (pick r0 r1 r2 r3 r4 x).a) rfl rfl rfl rfl rfl x a b
noncomputable def marksOf (r0 r1 r2 r3 r4 : SgE) (row : List Int) : List Value := row.map fun x => (refs5 r0 r1 r2 r3 r4).getD x.toNat .none
theorem row_at {row : List Int} (hrow : ∀ x ∈ row, 0 ≤ x ∧ x < 5) {i : Int} (h0 : 0 ≤ i) (h1 : i < row.length) : row[i.toNat]? = some (row.getD i.toNat 0) ∧ 0 ≤ row.getD i.toNat 0 ∧ row.getD i.toNat 0 < 5 := by
  have hi : i.toNat < row.length := by omega
  have e : row[i.toNat]? = some row[i.toNat] := List.getElem?_eq_getElem hi
  have e2 : row.getD i.toNat 0 = row[i.toNat] := by rw [List.getD_eq_getElem?_getD, e]; rfl
  rw [e2]
  exact ⟨e, hrow _ (List.getElem_mem hi)⟩
theorem marks_at {row : List Int} (hrow : ∀ x ∈ row, 0 ≤ x ∧ x < 5) {i : Int} (h0 : 0 ≤ i) (h1 : i < row.length) : (marksOf r0 r1 r2 r3 r4 row)[i.toNat]? = some (.ref (pick r0 r1 r2 r3 r4 (row.getD i.toNat 0)).a) := by
  obtain ⟨e, a, b⟩ := row_at hrow h0 h1
  rw [marksOf, List.getElem?_map, e, Option.map_some, refs5_at _ a b]
theorem oOf_in {row : List Int} {bs i : Int} (h0 : 0 ≤ i) (h1 : i < row.length) : oOf r0 r1 r2 r3 r4 row bs (bs + i) = some ((pick r0 r1 r2 r3 r4 (row.getD i.toNat 0)).c, (pick r0 r1 r2 r3 r4 (row.getD i.toNat 0)).l) := by
  unfold oOf
  rw [if_pos ⟨by omega, by omega⟩, show bs + i - bs = i by omega]
theorem oOf_out {row : List Int} {bs i : Int} (h : ¬ (0 ≤ i ∧ i < row.length)) : oOf r0 r1 r2 r3 r4 row bs (bs + i) = none := by
  unfold oOf
  rw [if_neg (by omega)]
theorem sg_all (g : In5 R r0 r1 r2 r3 r4) {row : List Int} (hrow : ∀ x ∈ row, 0 ≤ x ∧ x < 5) (bs i : Int) : SgAt R (atV (marksOf r0 r1 r2 r3 r4 row) i) (oOf r0 r1 r2 r3 r4 row bs (bs + i)) := by
  have hl : (marksOf r0 r1 r2 r3 r4 row).length = row.length := by simp [marksOf]
  by_cases h : 0 ≤ i ∧ i < row.length
  · rw [atV_in h.1 (by rw [hl]; exact h.2) (marks_at hrow h.1 h.2), oOf_in h.1 h.2]
    obtain ⟨_, a, b⟩ := row_at hrow h.1 h.2
    obtain ⟨k1, k2⟩ := g.pick _ a b
    exact .yes k1 (subs_len _ k2.2)
  · rw [oOf_out h]
    have : atV (marksOf r0 r1 r2 r3 r4 row) i = .none := if_neg (by rw [hl]; exact h)
    rw [this]; exact .no
theorem law8_all (g : In5 R r0 r1 r2 r3 r4) {row : List Int} (hrow : ∀ x ∈ row, 0 ≤ x ∧ x < 5) (bs : Int) : Law8 w R (marksOf r0 r1 r2 r3 r4 row) bs (oOf r0 r1 r2 r3 r4 row bs) := by
  have hl : (marksOf r0 r1 r2 r3 r4 row).length = row.length := by simp [marksOf]
  refine ⟨fun i h0 h1 => ?_, fun i h => ?_⟩
  · rw [hl] at h1
    obtain ⟨_, a, b⟩ := row_at hrow h0 h1
    obtain ⟨k1, k2⟩ := g.pick _ a b
    exact ⟨_, _, _, _, _, _, k2.1, marks_at hrow h0 h1, k1, oOf_in h0 h1⟩
  · rw [hl] at h; exact oOf_out h
structure Ys (w : World) (R : List (Addr × Obj)) (r0 r1 r2 r3 r4 : SgE) (y0 y1 y2 y3 y4 : SyE) : Prop where
  s0 : (y0.s, instObj 86 y0.d) ∈ R
  d0 : (y0.d, y0.obj w r0) ∈ R
  s1 : (y1.s, instObj 86 y1.d) ∈ R
  d1 : (y1.d, y1.obj w r1) ∈ R
  s2 : (y2.s, instObj 86 y2.d) ∈ R
  d2 : (y2.d, y2.obj w r2) ∈ R
  s3 : (y3.s, instObj 86 y3.d) ∈ R
  d3 : (y3.d, y3.obj w r3) ∈ R
  s4 : (y4.s, instObj 86 y4.d) ∈ R
  d4 : (y4.d, y4.obj w r4) ∈ R
noncomputable def kv5 (y0 y1 y2 y3 y4 : SyE) : List (Int × Value) := [(97, .ref y0.s), (98, .ref y1.s), (99, .ref y2.s), (100, .ref y3.s), (101, .ref y4.s)]
theorem Ys.pick {y0 y1 y2 y3 y4 : SyE} (g : Ys w R r0 r1 r2 r3 r4 y0 y1 y2 y3 y4) (x : Int) (a : 0 ≤ x) (b : x < 5) :
    ∃ y : SyE, valueAt (kv5 y0 y1 y2 y3 y4) (97 + x) = some (.ref y.s) ∧ (y.s, instObj 86 y.d) ∈ R ∧ (y.d, y.obj w (Mine.pick r0 r1 r2 r3 r4 x)) ∈ R :=
  five (P := fun x => ∃ y : SyE, valueAt (kv5 y0 y1 y2 y3 y4) (97 + x) = some (.ref y.s) ∧ (y.s, instObj 86 y.d) ∈ R ∧ (y.d, y.obj w (Mine.pick r0 r1 r2 r3 r4 x)) ∈ R)
    ⟨y0, rfl, g.s0, g.d0⟩ ⟨y1, rfl, g.s1, g.d1⟩ ⟨y2, rfl, g.s2, g.d2⟩ ⟨y3, rfl, g.s3, g.d3⟩ ⟨y4, rfl, g.s4, g.d4⟩ x a b
theorem sy_all {y0 y1 y2 y3 y4 : SyE} (g : In5 R r0 r1 r2 r3 r4) (gy : Ys w R r0 r1 r2 r3 r4 y0 y1 y2 y3 y4) {row : List Int} (hrow : ∀ x ∈ row, 0 ≤ x ∧ x < 5) (bs q : Int) :
    SynAt w R (kv5 y0 y1 y2 y3 y4) row bs q (oOf r0 r1 r2 r3 r4 row bs q) := by
  by_cases h : bs ≤ q ∧ q < bs + row.length
  · obtain ⟨_, a, b⟩ := row_at (i := q - bs) hrow (by omega) (by omega)
    obtain ⟨y, k1, k2, k3⟩ := gy.pick _ a b
    have e : oOf r0 r1 r2 r3 r4 row bs q = some ((pick r0 r1 r2 r3 r4 (row.getD (q - bs).toNat 0)).c, (pick r0 r1 r2 r3 r4 (row.getD (q - bs).toNat 0)).l) := if_pos h
    rw [e]
    exact .inn h a k1 k2 k3 (g.pick _ a b).2.1
  · have e : oOf r0 r1 r2 r3 r4 row bs q = none := if_neg h
    rw [e]
    exact .out h
end
theorem atom_styl (b c : Bool) (t : Tok) : Atom (.str (styl b c) t) (.str (styl b c)) :=
  ⟨fun _ => .str _ _, by cases b <;> cases c <;> decide +kernel, by cases b <;> cases c <;> decide +kernel, by cases b <;> cases c <;> decide +kernel, by cases b <;> cases c <;> decide +kernel, by cases b <;> cases c <;> decide +kernel, by cases b <;> cases c <;> decide +kernel⟩
theorem atom_empty (t : Tok) : Atom (.str (Str.ofString "") t) (.str (Str.ofString "")) :=
  ⟨fun _ => .str _ _, by decide +kernel, by decide +kernel, by decide +kernel, by decide +kernel, by decide +kernel, by decide +kernel⟩
theorem oneF_ok (kd c : Nat) (l : List Nat) : mdOk (oneF kd c l) := by
  intro n st ne fe h
  unfold oneF at h
  split at h
  · cases h; exact ⟨by decide, fun t => atom_styl _ _ t⟩
  · split at h
    · cases h; exact ⟨by decide, fun t => atom_empty t⟩
    · cases h
theorem markF_ok (f1 f2 kd : Nat) (fl : Bool) : ∀ p q, mdOk (markF f1 f2 kd fl p q)
  | none, _ => fun _ _ _ _ h => nomatch h
  | some (c, l), none => oneF_ok kd c l
  | some (c, l), some (c', l') => by
    simp only [markF]
    split
    · intro n st ne fe h
      cases h; exact ⟨by decide, fun t => atom_styl _ _ t⟩
    · exact oneF_ok kd c l
end
section
-- Main6
theorem For_main {prog : Program} {w : World} {A : Around} {s : Shared} {h₀ : Heap} {L fa : Addr} {cd : Value} {nm x : Str} {sc : Scope} {m : Str → Option Value} {iter : PySem.Expr} {body : List Stmt} {px pos : Pos} {Q : Flow → Shared → Prop} (F : Fr h₀ L s.heap m)
    (hx : (envOfC nm sc L fa cd).kindOf x = some .local) (hp : ((envOfC nm sc L fa cd).scope.kind == .class || ((envOfC nm sc L fa cd).scope.kind == .module && (envOfC nm sc L fa cd).locals != (envOfC nm sc L fa cd).globals)) = false)
    (h : wpAny (model prog w) A (eval iter (envOfC nm sc L fa cd)) (fun xv s₁ => wpAny (model prog w) A (pyIter xv) (fun it s₂ => LoopAtV prog w A h₀ (envOfC nm sc L fa cd) x body Q (fun _ _ => False) it s₂) (fun _ _ => False) s₁) (fun _ _ => False) s)
    (hs : ∀ x, foldedSetIterable iter (envOfC nm sc L fa cd) x = pure x) : wpAny (model prog w) A (exec (.For (.Name x px) iter body [] pos) (envOfC nm sc L fa cd)) Q (fun _ _ => False) s :=
  For_invVF (env := envOfC nm sc L fa cd) F hx hp h hs PassesOwn.never
set_option maxRecDepth 100000 in
theorem mains (w : World) (mean : ExcName → Option Value) (mg mb : Str → Option Value) (fa L : Addr) (cd : Value) {vw vd cds : Addr} {bs : Int} {cvs : List Value} {row : List Int} {e : Nat} {a1 a2 a3 : Tok} {tb td rw : Addr} {ro : Obj} {kvs : List (Int × Value)} {u1 u2 : Tok} {oAt : Int → Option (Nat × List Nat)} {rl mk : Addr} {rvs mvs : List Value} (tbs : Tok) (base h₀ : Heap) (m₀ : Str → Option Value) (I : Addr) (n : Nat) (R : List (Addr × Obj)) (s : Shared) (Q : Flow → Shared → Prop)
    (B : Below callerA base [] h₀) (X : (K0 w.params).In h₀) (T : Top view0 (looseW view0 [Str.ofString "ParseState"]) mean mg mb h₀)
    (hI3 : I ≠ L + 1 + 1 + 1) (hI4 : I ≠ L + 1 + 1 + 1 + 1) (hI5 : I ≠ L + 1 + 1 + 1 + 1 + 1) (hIR : ∀ p ∈ R, p.1 ≠ I) (hn : ∀ p ∈ R, p.1 ≠ L + 1 + 1 + 1 ∧ p.1 ≠ L + 1 + 1 + 1 + 1 ∧ p.1 ≠ L + 1 + 1 + 1 + 1 + 1) (hn10 : n < 15)
    (lw : LW w R vw vd cds bs cvs row e a1 a2 a3 tb td rw ro kvs u1 u2) (g1 : (rl, LCg.lst rvs) ∈ R) (g2 : (mk, LCg.lst mvs) ∈ R) (hl1 : rvs.length < 8) (hl2 : mvs.length = rvs.length)
    (sg : ∀ i, SgAt R (atV mvs i) (oAt (bs + i))) (sy : ∀ q, SynAt w R kvs row bs q (oAt q)) (h8 : Law8 w R mvs bs oAt)
    (ok1 : ∀ p q, mdOk (markF 49 50 60 true (oAt p) (oAt q))) (ok2 : ∀ p q, mdOk (markF 51 52 62 false (oAt p) (oAt q)))
    (hm1 : m₀ (Str.ofString "row") = some (.ref rl)) (hm2 : m₀ (Str.ofString "marks") = some (.ref mk)) (hm4 : m₀ (Str.ofString "view") = some (.ref vw)) (hm5 : m₀ (Str.ofString "table") = some (.ref tb)) (hm6 : m₀ (Str.ofString "base") = some (.int bs tbs))
    (hQ : ∀ m' o3' o4' o5' v3' v4' v5' h' tk', o3'.data = .cell v3' → o4'.data = .cell v4' → o5'.data = .cell v5' → Fr h₀ L h' m' →
      News h₀ L h' ((L + 1 + 1 + 1, o3') :: (L + 1 + 1 + 1 + 1, o4') :: (L + 1 + 1 + 1 + 1 + 1, o5') :: R) → Q .next { s with heap := h', toks := tk' }) :
    ∀ (k i : Nat) (m : Str → Option Value) (o3 o4 o5 : Obj) (v3 v4 v5 : Option Value), k + i = n →
      (∀ y, y ≠ Str.ofString "at" → y ≠ Str.ofString "one" → y ≠ Str.ofString "other" → y ≠ Str.ofString "due" → y ≠ Str.ofString "found" → y ≠ Str.ofString "wanted" → y ≠ Str.ofString "count" → m y = m₀ y) → o3.data = .cell v3 → o4.data = .cell v4 → o5.data = .cell v5 →
      RangeRest Challenge.rw_ok0055_01.row.prog w (callerA.deeper (envLaw L fa cd)) (fun _ _ => False) h₀ (envLaw L fa cd) (Str.ofString "at") loopBody Q s I (-1) n k i m ((L + 1 + 1 + 1, o3) :: (L + 1 + 1 + 1 + 1, o4) :: (L + 1 + 1 + 1 + 1 + 1, o5) :: R) := by
  intro k
  induction k with
  | zero =>
    intro i m o3 o4 o5 v3 v4 v5 _ _ c3 c4 c5
    exact RangeRest.zero fun h tk F N => hQ m o3 o4 o5 v3 v4 v5 h tk c3 c4 c5 F N
  | succ k ih =>
    intro i m o3 o4 o5 v3 v4 v5 hk hm c3 c4 c5
    refine RangeRest.succ fun t h tk F N => ?_
    refine turn6 w mean mg mb fa L cd (-1 + (i : Int)) t tbs base h₀ _ I _ o3 o4 o5 v3 v4 v5 R _ _ B X T F N c3 c4 c5 ⟨hI3, hI4, hI5⟩ hn lw g1 g2 hl1 hl2 (by omega) (by omega) sg sy h8 ok1 ok2 ?p1 ?p2 ?p3 ?p4 ?p5 ?p6 ?_
    case p1 => rw [if_neg (by decide), hm _ (by decide) (by decide) (by decide) (by decide) (by decide) (by decide) (by decide)]; exact hm1
    case p2 => rw [if_neg (by decide), hm _ (by decide) (by decide) (by decide) (by decide) (by decide) (by decide) (by decide)]; exact hm2
    case p3 => rw [if_pos rfl]
    case p4 => rw [if_neg (by decide), hm _ (by decide) (by decide) (by decide) (by decide) (by decide) (by decide) (by decide)]; exact hm4
    case p5 => rw [if_neg (by decide), hm _ (by decide) (by decide) (by decide) (by decide) (by decide) (by decide) (by decide)]; exact hm5
    case p6 => rw [if_neg (by decide), hm _ (by decide) (by decide) (by decide) (by decide) (by decide) (by decide) (by decide)]; exact hm6
    intro m' o3' o4' o5' v3' v4' v5' h' tk' hm' c3' c4' c5' F' N'
    refine UnrEnd.intro F' N' ((L + 1 + 1 + 1, o3') :: (L + 1 + 1 + 1 + 1, o4') :: (L + 1 + 1 + 1 + 1 + 1, o5') :: R) (fun p hp => hp) ?_ (ih (i + 1) m' o3' o4' o5' v3' v4' v5' (by omega) ?_ c3' c4' c5')
    · exact List.forall_mem_cons.mpr ⟨Ne.symm hI3, List.forall_mem_cons.mpr ⟨Ne.symm hI4, List.forall_mem_cons.mpr ⟨Ne.symm hI5, hIR⟩⟩⟩
    · intro y e0 e1 e2 e3 e4 e5 e6
      rw [hm' y e1 e2 e3 e4 e5 e6, if_neg e0, hm y e0 e1 e2 e3 e4 e5 e6]
local macro_rules | `(tactic| walk_at "call builtin:len") => `(tactic| (k_here; (with_reducible show wpAny _ _ (call (Value.builtin "len") [Value.ref _]) _ _ _); k_dflt (refine' len_lst (News.isList ?N ?m) ?f ?_; (case N => k_asm); (case m => k_mem); (case f => assumption)); intro u9 tk9))
set_option maxRecDepth 100000 in
set_option maxHeartbeats 4000000 in
theorem stmt6 (w : World) (mean : ExcName → Option Value) (mg mb : Str → Option Value) (fa L : Addr) (cd : Value) {vw vd cds : Addr} {bs : Int} {cvs : List Value} {row : List Int} {e : Nat} {a1 a2 a3 : Tok} {tb td rw : Addr} {ro : Obj} {kvs : List (Int × Value)} {u1 u2 : Tok} {oAt : Int → Option (Nat × List Nat)} {rl mk : Addr} {rvs mvs : List Value} (tbs : Tok) (base h₀ : Heap) (m : Str → Option Value) (o3 o4 o5 : Obj) (v3 v4 v5 : Option Value) (R : List (Addr × Obj)) (s : Shared) (Q : Flow → Shared → Prop)
    (B : Below callerA base [] h₀) (F : Fr h₀ L s.heap m) (X : (K0 w.params).In h₀) (N : News h₀ L s.heap ((L + 1 + 1 + 1, o3) :: (L + 1 + 1 + 1 + 1, o4) :: (L + 1 + 1 + 1 + 1 + 1, o5) :: R)) (T : Top view0 (looseW view0 [Str.ofString "ParseState"]) mean mg mb h₀)
    (c3 : o3.data = .cell v3) (c4 : o4.data = .cell v4) (c5 : o5.data = .cell v5)
    (hn : ∀ p ∈ R, p.1 ≠ L + 1 + 1 + 1 ∧ p.1 ≠ L + 1 + 1 + 1 + 1 ∧ p.1 ≠ L + 1 + 1 + 1 + 1 + 1)
    (lw : LW w R vw vd cds bs cvs row e a1 a2 a3 tb td rw ro kvs u1 u2) (g1 : (rl, LCg.lst rvs) ∈ R) (g2 : (mk, LCg.lst mvs) ∈ R) (hl1 : rvs.length < 8) (hl2 : mvs.length = rvs.length)
    (sg : ∀ i, SgAt R (atV mvs i) (oAt (bs + i))) (sy : ∀ q, SynAt w R kvs row bs q (oAt q)) (h8 : Law8 w R mvs bs oAt)
    (ok1 : ∀ p q, mdOk (markF 49 50 60 true (oAt p) (oAt q))) (ok2 : ∀ p q, mdOk (markF 51 52 62 false (oAt p) (oAt q)))
    (hm1 : m (Str.ofString "row") = some (.ref rl)) (hm2 : m (Str.ofString "marks") = some (.ref mk)) (hm4 : m (Str.ofString "view") = some (.ref vw)) (hm5 : m (Str.ofString "table") = some (.ref tb)) (hm6 : m (Str.ofString "base") = some (.int bs tbs))
    (hQ : ∀ m' h' tk', Fr h₀ L h' m' → News h₀ L h' R → Q .next { s with heap := h', toks := tk' }) :
    wpAny (model Challenge.rw_ok0055_01.row.prog w) (callerA.deeper (envLaw L fa cd)) (exec (lawBody.getD 6 (.Pass ⟨0, 0, 0, 0⟩)) (envLaw L fa cd)) Q (fun _ _ => False) s := by
  w_on
  revert X
  k_fill
  intro X
  unfold envLaw
  obtain ⟨sc, hsc⟩ : ∃ sc, sc = lawScope := ⟨_, rfl⟩
  rw [← hsc]
  conv at hsc => rhs; whnf
  subst hsc
  conv => arg 3; arg 1; whnf
  have g1' : (rl, LCg.lst rvs) ∈ (L + 1 + 1 + 1, o3) :: (L + 1 + 1 + 1 + 1, o4) :: (L + 1 + 1 + 1 + 1 + 1, o5) :: R := .tail _ (.tail _ (.tail _ g1))
  w_strict (
    refine @For_main _ _ _ _ h₀ L fa cd _ _ _ m _ _ _ _ _ ?F ?hx ?hp ?h ?hs
    case F => exact F
    case hx => exact rfl
    case hp => exact rfl
    case hs => intro _; rfl
    (iterate 40 (first | (with_reducible show wpAny _ _ (pyIter _) _ _ _) | (k_unfold; (try dsimp only)) | (walk1; (try dsimp only)) | (dsimp only; walk1)))
    rename News h₀ L _ (_ :: _) => N9
    rename IsRange _ _ _ _ _ _ _ _ => r9
    refine iter_rangeUnr (n := rvs.length + 2) (by rfl) r9 (small_one (by omega) (by omega) (by omega) (by omega)) (by rw [rangeSize_one]; split <;> omega) (by k_asm) N9 ?_
    intro I hI
    have z3 := Nat.ne_of_gt (hI _ (.head _))
    have z4 := Nat.ne_of_gt (hI _ (.tail _ (.head _)))
    have z5 := Nat.ne_of_gt (hI _ (.tail _ (.tail _ (.head _))))
    refine mains w mean mg mb fa L cd tbs base h₀ m I (rvs.length + 2) R _ Q B X T z3 z4 z5 (fun p hp => Nat.ne_of_lt (hI p (.tail _ (.tail _ (.tail _ hp))))) hn (by omega) lw g1 g2 hl1 hl2 sg sy h8 ok1 ok2 hm1 hm2 hm4 hm5 hm6 ?_ (rvs.length + 2) 0 m o3 o4 o5 v3 v4 v5 rfl (fun _ _ _ _ _ _ _ _ => rfl) c3 c4 c5
    intro m' o3' o4' o5' v3' v4' v5' h' tk' _ _ _ F' N'
    exact hQ m' h' tk' F' (news_sub N' fun p hp => .tail _ (.tail _ (.tail _ hp))))
end
section
-- LawD
local macro_rules | `(tactic| k_updF) => `(tactic| (refine' UpdF.head ?a; (case a => first | assumption | k_all)))
local macro_rules | `(tactic| walk_at "call ref") => `(tactic| (k_here; k_dflt (refine' draw_use ?B ?F ?X ?N ?T ?hk ?U ?hx ?hxd ?hI ?hlen ?n0 ?n1 ?k0 ?k1 ?hd ?hu ?_; (case B => k_asm); (case F => k_asm); (case X => k_asm); (case N => k_asm); (case T => k_asm); (case hk => first | exact rfl | assumption); (case U => intro t2; k_upd); (case hx => k_mem); (case hxd => first | assumption | k_ne); (case hI => assumption); (case hlen => assumption); (case n0 => first | assumption | omega); (case n1 => first | assumption | omega); (case k0 => omega); (case k1 => omega); (case hd => ktr_room); (case hu => ktr_units); k_whole; intro d1 t1 t2 h' tk' F' N' hd0 hd1; (try dsimp only); (try k_sweep); (try k_fold))))
local macro_rules | `(tactic| walk_at "eval ListComp") => `(tactic| (k_here; k_dflt (refine LCg.ListComp_U (F₀ := by k_asm) (by with_unfolding_all rfl) (by decide) (by rfl) (by decide) (by rfl) ?_)))
local macro_rules | `(tactic| lcg_sub) => `(tactic| (intro p9 hp9; first | exact hp9 | exact .tail _ hp9 | exact .tail _ (.tail _ hp9) | exact .tail _ (.tail _ (.tail _ hp9)) | exact .tail _ (.tail _ (.tail _ (.tail _ hp9))) | exact .tail _ (.tail _ (.tail _ (.tail _ (.tail _ hp9))))))
theorem off1_mem {D : Addr} : ∀ {l : List (Addr × Obj)}, LCg.Off1 D l → ∀ p ∈ l, p.1 ≠ D
  | [], _, _, h => nomatch h
  | _ :: _, x, p, h => by
    rcases List.mem_cons.mp h with rfl | h
    · exact x.1
    · exact off1_mem x.2 p h
set_option maxRecDepth 100000 in
set_option maxHeartbeats 8000000 in
theorem stmt3 (w : World) (mean : ExcName → Option Value) (mg mb : Str → Option Value) (fa L dk xs : Addr) (cd : Value) (ys : List Value) (ms : List Int) (base h₀ : Heap) (m : Str → Option Value) (o1 : Obj) (c : Int) (t : Tok) (R : List (Addr × Obj)) (s : Shared) (Q : Flow → Shared → Prop) (E : Value → Shared → Prop)
    (B : Below callerA base [] h₀) (F : Fr h₀ L s.heap m) (X : (K0 w.params).In h₀) (N : News h₀ L s.heap ((dk, listOf #[.ref xs, .int c t] 0) :: (L + 1, o1) :: (xs, LCg.lst ys) :: R)) (T : Top view0 (looseW view0 [Str.ofString "ParseState"]) mean mg mb h₀)
    (hI : IntsAre ys ms) (hlen : ms.length ≤ 60) (hd1 : o1.data = .cell (some (.ref dk))) (hRd : ∀ p ∈ R, p.1 ≠ dk) (hxd : xs ≠ dk) (h1d : L + 1 ≠ dk) (hc0 : 0 ≤ c) (hc1 : c < 600)
    (hret : ∀ rl rvs row c' t2 tk' h', IntsAre rvs row → row.length < 8 → (∀ x ∈ row, 0 ≤ x ∧ x < 5) → c ≤ c' → c' ≤ c + 9 → (∀ p ∈ (dk, listOf #[.ref xs, .int c t] 0) :: (L + 1, o1) :: (xs, LCg.lst ys) :: R, p.1 ≠ rl) →
      Fr h₀ L h' (fun y => if y = Str.ofString "row" then some (.ref rl) else m y) → News h₀ L h' ((rl, LCg.lst rvs) :: (dk, listOf #[.ref xs, .int c' t2] 0) :: (L + 1, o1) :: (xs, LCg.lst ys) :: R) → Q .next { s with heap := h', toks := tk' }) :
    wpAny (model Challenge.rw_ok0055_01.row.prog w) (callerA.deeper (envLaw L fa cd)) (exec (lawBody.getD 3 (.Pass ⟨0, 0, 0, 0⟩)) (envLaw L fa cd)) Q E s := by
  w_on
  revert X
  k_fill
  intro X
  unfold envLaw
  obtain ⟨sc, hsc⟩ : ∃ sc, sc = lawScope := ⟨_, rfl⟩
  rw [← hsc]
  conv at hsc => rhs; whnf
  subst hsc
  conv => arg 3; arg 1; whnf
  w_strict (
    iterate 18 (first | (k_unfold; (try dsimp only)) | walk1 | (dsimp only; walk1))
    rename_i d9 td1 td2 hD tkD FD ND hd0 hd1 h10 tk10 t0 ta tb r9 F10 N10 g10
    refine LCg.CompSrc.range (n := d9.toNat) (by rfl) (by k_asm) (by k_asm) (by assumption) (small_one (by omega) (by omega) (by omega) (by omega)) (by rw [rangeSize_one]; split <;> omega) (by rw [sizeLine_eq]; omega) fun g => ?_
    refine CompRest.induct (n := d9.toNat) (fun i zs news => ∃ row t2 c', IntsAre zs row ∧ row.length = i ∧ (∀ x ∈ row, 0 ≤ x ∧ x < 5) ∧ c' = c + 1 + (i : Int) ∧ news = (dk, listOf #[.ref xs, .int c' t2] 0) :: (L + 1, o1) :: (xs, LCg.lst ys) :: R) ?fin ?step _ 0 [] _ rfl ⟨[], _, _, .nil, rfl, (fun _ h => nomatch h), by omega, rfl⟩
    case fin =>
      rintro zs news ⟨row, t2, c', hz, hlen', hrow, hc', rfl⟩
      k_steps
      rename (_ ≠ _ ∧ _ ≠ _ ∧ _ ≠ _ ∧ LCg.Off1 _ R) => o9
      refine hret _ zs row c' t2 _ _ hz (by omega) hrow (by omega) (by omega) ?_ (by assumption) (by assumption)
      exact List.forall_mem_cons.mpr ⟨o9.1, List.forall_mem_cons.mpr ⟨o9.2.1, List.forall_mem_cons.mpr ⟨o9.2.2.1, off1_mem o9.2.2.2⟩⟩⟩
    case step =>
      rintro i zs news hi ⟨row, t2, c', hz, hlen', hrow, hc', rfl⟩
      have q0 : 0 ≤ c' := by omega
      have q1 : c' < 1000 := by omega
      intro v I oI C oC D m₂ h tk E' hv hC' hx F' N' off ne
      simp only [LCg.Off3] at off
      have hdkx : dk ≠ xs := Ne.symm hxd
      obtain ⟨⟨p1, p2, p3⟩, ⟨p4, p5, p6⟩, ⟨p7, p8, p9⟩, p0⟩ := id off
      obtain ⟨n1, n2, n3⟩ := id ne
      k_steps
      refine LCg.CompEnd.intro (by assumption) (by assumption) _ (fun p hp => hp) (by exact off) trivial ⟨row ++ [_], _, _, IntsAre.append hz (.cons _ _ .nil), by simp [hlen'], ?_, by omega, rfl⟩
      intro x hx
      rcases List.mem_append.mp hx with hx | hx
      · exact hrow x hx
      · rw [List.mem_singleton.mp hx]; exact ⟨by assumption, by assumption⟩)
set_option maxRecDepth 100000 in
set_option maxHeartbeats 8000000 in
theorem stmt4 (w : World) (mean : ExcName → Option Value) (mg mb : Str → Option Value) (fa L dk xs : Addr) (cd : Value) (ys : List Value) (ms : List Int) (base h₀ : Heap) (m : Str → Option Value) (o1 : Obj) (c : Int) (t : Tok) (R : List (Addr × Obj)) (s : Shared) (Q : Flow → Shared → Prop) (E : Value → Shared → Prop)
    (B : Below callerA base [] h₀) (F : Fr h₀ L s.heap m) (X : (K0 w.params).In h₀) (N : News h₀ L s.heap ((dk, listOf #[.ref xs, .int c t] 0) :: (L + 1, o1) :: (xs, LCg.lst ys) :: R)) (T : Top view0 (looseW view0 [Str.ofString "ParseState"]) mean mg mb h₀)
    (hI : IntsAre ys ms) (hlen : ms.length ≤ 60) (hd1 : o1.data = .cell (some (.ref dk))) (hRd : ∀ p ∈ R, p.1 ≠ dk) (hxd : xs ≠ dk) (h1d : L + 1 ≠ dk) (hc0 : 0 ≤ c) (hc1 : c < 600)
    (hret : ∀ b t1 t2 tk' h', 0 ≤ b → b < 3 →
      Fr h₀ L h' (fun y => if y = Str.ofString "base" then some (.int b t1) else m y) → News h₀ L h' ((dk, listOf #[.ref xs, .int (c + 1) t2] 0) :: (L + 1, o1) :: (xs, LCg.lst ys) :: R) → Q .next { s with heap := h', toks := tk' }) :
    wpAny (model Challenge.rw_ok0055_01.row.prog w) (callerA.deeper (envLaw L fa cd)) (exec (lawBody.getD 4 (.Pass ⟨0, 0, 0, 0⟩)) (envLaw L fa cd)) Q E s := by
  w_on
  revert X
  k_fill
  intro X
  unfold envLaw
  obtain ⟨sc, hsc⟩ : ∃ sc, sc = lawScope := ⟨_, rfl⟩
  rw [← hsc]
  conv at hsc => rhs; whnf
  subst hsc
  conv => arg 3; arg 1; whnf
  w_strict (
    k_steps
    exact hret _ _ _ _ _ (by assumption) (by assumption) (by assumption) (by assumption))
end
section
-- LawE
local macro_rules | `(tactic| walk_at "pad") => `(tactic| fail)
local macro_rules | `(tactic| walk_at "eval ListComp") => `(tactic| (k_here; k_dflt (refine LCg.ListComp_U (F₀ := by k_asm) (by with_unfolding_all rfl) (by decide) (by rfl) (by decide) (by rfl) ?_)))
local macro_rules | `(tactic| lcg_sub) => `(tactic| (intro p9 hp9; first | exact hp9 | exact .tail _ hp9 | exact .tail _ (.tail _ hp9) | exact .tail _ (.tail _ (.tail _ hp9)) | exact .tail _ (.tail _ (.tail _ (.tail _ hp9))) | exact .tail _ (.tail _ (.tail _ (.tail _ (.tail _ hp9))))))
local macro_rules | `(tactic| walk_at "last subscriptTail") => `(tactic| (k_here; k_dflt (refine' item_pick (News.isList ?N ?m) ?h0 ?h1 ?h2 ?_ ?s; (case N => k_asm); (case m => k_mem); (case h0 => assumption); (case h1 => omega); (case h2 => omega); (case s => with_unfolding_all rfl); intro v9 hv9)))
set_option maxRecDepth 100000 in
set_option maxHeartbeats 8000000 in
theorem stmt5 (w : World) (mean : ExcName → Option Value) (mg mb : Str → Option Value) (fa L rl sl : Addr) (cd : Value) (rvs refs : List Value) (row : List Int) (base h₀ : Heap) (m : Str → Option Value) (o2 : Obj) (b : Int) (tb : Tok) (e : Nat) (news : List (Addr × Obj)) (s : Shared) (Q : Flow → Shared → Prop) (E : Value → Shared → Prop)
    (B : Below callerA base [] h₀) (F : Fr h₀ L s.heap m) (X : (K0 w.params).In h₀) (N : News h₀ L s.heap news) (T : Top view0 (looseW view0 [Str.ofString "ParseState"]) mean mg mb h₀)
    (g1 : (rl, LCg.lst rvs) ∈ news) (g2 : (L + 1 + 1, o2) ∈ news) (g3 : (sl, listOf refs.toArray e) ∈ news) (hd2 : o2.data = .cell (some (.ref sl))) (h5 : refs.length = 5)
    (hI : IntsAre rvs row) (hlen : row.length < 8) (hrow : ∀ x ∈ row, 0 ≤ x ∧ x < 5) (hb0 : 0 ≤ b) (hb1 : b < 3)
    (hm1 : m (Str.ofString "row") = some (.ref rl)) (hm2 : m (Str.ofString "base") = some (.int b tb))
    (hret : ∀ vw vd cds mk cvs e2 u1 u2 t tk' h', IntsAre cvs (row.map fun x => 97 + x) → (∀ p ∈ news, p.1 ≠ mk ∧ p.1 ≠ cds ∧ p.1 ≠ vw ∧ p.1 ≠ vd) →
      Fr h₀ L h' (fun y => if y = Str.ofString "view" then some (.ref vw) else if y = Str.ofString "marks" then some (.ref mk) else m y) →
      News h₀ L h' ((mk, LCg.lst (row.map fun x => refs.getD x.toNat .none)) :: (cds, listOf cvs.toArray e2) :: (vw, instObj 338 vd) :: (vd, viewD w cds b u1 u2 t) :: news) → Q .next { s with heap := h', toks := tk' }) :
    wpAny (model Challenge.rw_ok0055_01.row.prog w) (callerA.deeper (envLaw L fa cd)) (exec (lawBody.getD 5 (.Pass ⟨0, 0, 0, 0⟩)) (envLaw L fa cd)) Q E s := by
  w_on
  revert X
  k_fill
  intro X
  unfold envLaw
  obtain ⟨sc, hsc⟩ : ∃ sc, sc = lawScope := ⟨_, rfl⟩
  rw [← hsc]
  conv at hsc => rhs; whnf
  subst hsc
  conv => arg 3; arg 1; whnf
  w_strict (
    iterate 46 (first | (k_unfold; (try dsimp only)) | walk1 | (dsimp only; walk1) | (leave1; (try dsimp only)))
    rename News h₀ L _ (_ :: _) => N9
    rename IntsAre _ _ => IC
    have hrl : rvs.length = row.length := hI.length
    refine LCg.CompSrc.ledger (by rfl) (by k_asm) N9 (by k_mem) (by rw [List.size_toArray, hrl, sizeLine_eq]; omega) fun g => ?_
    refine CompRest.induct (n := rvs.toArray.size) (fun i zs news' => zs = (row.take i).map (fun x => refs.getD x.toNat .none) ∧ news' = _) ?fin ?step _ 0 [] _ rfl ⟨by simp, rfl⟩
    case fin =>
      rintro zs news' ⟨rfl, rfl⟩
      k_steps
      rename (_ < _ ∧ _ < _ ∧ _ < _ ∧ _ < _ ∧ _ < _ ∧ AllLt _ news) => la9
      rename (_ ≠ _ ∧ _ ≠ _ ∧ _ ≠ _ ∧ _ ≠ _ ∧ LCg.Off1 _ news) => lb9
      rename (_ < _ ∧ AllLt _ news) => lc9
      rename (_ < _ ∧ _ < _ ∧ _ < _ ∧ AllLt _ news) => ld9
      rename (@LT.lt Addr _ _ _) => le9
      rename News h₀ L _ (_ :: _) => N9
      rw [List.take_of_length_le (by simp [hrl])] at N9
      refine hret _ _ _ _ _ _ _ _ _ _ _ IC (fun p hp => ⟨?_, ?_, ?_, ?_⟩) (by assumption) (news_sub N9 (List.forall_mem_cons.mpr ⟨.tail _ (.head _), List.forall_mem_cons.mpr ⟨.tail _ (.tail _ (.head _)), List.forall_mem_cons.mpr ⟨.tail _ (.tail _ (.tail _ (.head _))), List.forall_mem_cons.mpr ⟨.tail _ (.tail _ (.tail _ (.tail _ (.head _)))), fun p hp => .tail _ (.tail _ (.tail _ (.tail _ (.tail _ (.tail _ hp)))))⟩⟩⟩⟩))
      · exact off1_mem lb9.2.2.2.2 p hp
      · exact Nat.ne_of_lt (ktn_ltOf ld9.2.2.2 p hp)
      · exact Nat.ne_of_lt (Nat.lt_trans (ktn_ltOf lc9.2 p hp) le9)
      · exact Nat.ne_of_lt (ktn_ltOf lc9.2 p hp)
    case step =>
      rintro i zs news' hi ⟨rfl, rfl⟩ v I oI C oC D m₂ h tk E' hv hC' hx F' N' off ne
      have hi' : i < row.length := by rw [← hrl]; simpa using hi
      obtain ⟨t9, hv9⟩ := hI.get i row[i] (List.getElem?_eq_getElem hi')
      obtain rfl : v = .int row[i] t9 := by
        have : rvs[i]? = some v := by simpa using hv
        rw [hv9] at this; exact (Option.some.inj this).symm
      obtain ⟨hr0, hr1⟩ := hrow _ (List.getElem_mem hi')
      k_steps
      rename refs[_]? = some _ => q9
      refine LCg.CompEnd.intro (by assumption) (by assumption) _ (fun p hp => hp) (by exact off) (.inr ⟨_, (by k_mem), rfl, _, rfl⟩) ⟨?_, rfl⟩
      rw [List.take_succ_eq_append_getElem hi', List.map_append, List.map_singleton, List.getD_eq_getElem?_getD, q9]; rfl)
end
section
-- Flags
local macro_rules | `(tactic| ktn_open) => `(tactic| (refine' code_defC ?k1 ?k2 ?k3 ?k4 ?k5 ?kA ?kF ?kK ?k6 ?k7 ?k8 ?k9 ?kB ?kD ?_ ?c2 ?c3 ?c4; (case kA => exact rfl); (case kF => exact rfl); (case kK => assumption); (case k1 => k_asm); (case k2 => k_asm); (case k3 => k_asm); (case k4 => k_asm); (case k5 => k_asm); (case k6 => k_is); (case k7 => k_is); (case k8 => ktr_room); (case k9 => exact BindsTo.of_eq rfl); (case kB => exact rfl); (case kD => decide +kernel); (case c2 => exact rfl); (case c3 => exact rfl); (case c4 => exact rfl); k_whole; intro g' L' h' tk' cells' FG' F' N' Y' B' X' T' l1; (try k_lt l1); k_cells Y'; (try simp only [List.cons_append, List.nil_append] at N'); (try dsimp only); (try k_fold)))
local macro_rules | `(tactic| walk_at "eval ListComp") => `(tactic| (k_here; k_dflt (refine ListComp_TS (F₀ := by k_asm) (by with_unfolding_all rfl) (by decide) (by rfl) (by decide) (by rfl) ?_)))
local macro_rules | `(tactic| lcg_sub) => `(tactic| (intro p9 hp9; first | exact hp9 | exact .tail _ hp9 | exact .tail _ (.tail _ hp9) | exact .tail _ (.tail _ (.tail _ hp9)) | exact .tail _ (.tail _ (.tail _ (.tail _ hp9))) | exact .tail _ (.tail _ (.tail _ (.tail _ (.tail _ hp9))))))
local macro_rules | `(tactic| lcg_off) => `(tactic| assumption)
local macro_rules | `(tactic| walk_at "call builtin:str.join") => `(tactic| (k_here; k_dflt (refine' join_list (News.isList ?N ?m) ?S ?z ?_; (case N => k_asm); (case m => k_mem); (case S => assumption))))
set_option maxRecDepth 100000 in
set_option maxHeartbeats 8000000 in
theorem sorted_ok (w : World) (mean : ExcName → Option Value) (mg mb : Str → Option Value) (l : List Nat) (t : Tok) (rest : List (Addr × Obj)) (hl : l ∈ subs 7) :
    Ctr w mean mg mb 1 95 [.str (txt l) t] rest (fun r news' => ∃ t1, r = .str (txt l) t1 ∧ news' = rest) := by
  w_on
  unfold Ctr
  k_fill
  intro dp un gd cn cs a ccd cl outer A₀ base h₀ L m s Q E B F X N T hk hd hu hret
  refine wpAny_call ?_
  k_dflt ktn_open
  w_strict (
    k_steps
    rename (News _ _ _ (_ :: rest)) => NC
    refine ⟨_, _, _, rfl, rfl, (by k_asm), NC, by decide +kernel, fun g => ?_⟩
    refine CompRestT.induct (n := 8) (fun i ys news => StrsAre ys (((flagsL.take i).filter (fun c => l.contains c)).map sgn) ∧ news = _) ?fin ?step _ 0 [] _ rfl ⟨.nil, rfl⟩
    case fin =>
      rintro ys news ⟨hS, rfl⟩
      rw [show flagsL.take 8 = flagsL from rfl, subs_sorted l hl] at hS
      k_steps
      · rw [sum_len_sgn, List.length_map, show (Str.ofString "").length = 0 from by decide]
        have := subs_len l hl
        omega
      · rename News h₀ L _ (_ :: _) => N9
        rw [subs_join l hl]
        exact hret _ _ _ _ (by k_asm) (news_sub N9 (by lcg_sub)) ⟨_, rfl, rfl⟩
    case step =>
      rintro i ys news hi ⟨hS, rfl⟩ v I oI C oC D m₂ h tk E' ⟨cc, u, hcc, rfl⟩ hC' hx F' N' off ne
      rw [flags_at i hi] at hcc
      cases hcc
      simp only [LCg.Off3] at off
      k_steps
      · rename (_ = true) => ha
        rw [occ_txt] at ha
        exact LCg.CompEnd.intro (by assumption) (by assumption) _ (fun p hp => hp) (by exact off) trivial ⟨kept_no hi hS (by simpa using ha), rfl⟩
      · rename (_ = false) => ha
        rw [occ_txt] at ha
        exact LCg.CompEnd.intro (by assumption) (by assumption) _ (fun p hp => hp) (by exact off) trivial ⟨kept_yes hi hS (by simpa using ha), rfl⟩)

theorem sorted_use {w : World} {mean : ExcName → Option Value} {mg mb : Str → Option Value} {x : Str} {l : List Nat} {t : Tok} {news : List (Addr × Obj)}
    {dp un : Nat} {gd : Option (List Code)} {cn : Str} {cs : Scope} {a : Addr} {ccd : Value} {cl : List (Str × Addr)} {outer : List Env} {A₀ : Around} {base h₀ : Heap} {L : Addr} {m : Str → Option Value} {s : Shared} {Q E : Value → Shared → Prop}
    (B : Below A₀ base outer h₀) (F : Fr h₀ L s.heap m) (X : (K0 w.params).In h₀) (N : News h₀ L s.heap news)
    (T : Top view0 (looseW view0 [Str.ofString "ParseState"]) mean mg mb h₀) (hk : cs.kind = .function) (hl : l ∈ subs 7) (hx : x = txt l)
    (hd : dp + 1 < recursionLimit) (hu : un + 8 * 1 < cLine)
    (hret : ∀ t1 h' tk', Fr h₀ L h' m → News h₀ L h' news → Q (.str (txt l) t1) { s with heap := h', toks := tk' }) :
    wpAny (model Challenge.rw_ok0055_01.row.prog w) (ktrTop dp un gd cn cs L a ccd cl outer) (call (.ref 95) [.str x t]) Q E s := by
  subst hx
  refine sorted_ok w mean mg mb l t news hl dp un gd cn cs a ccd cl outer A₀ base h₀ L m s Q E B F X N T hk hd hu ?_
  rintro r n1 h' tk' F' N' ⟨t1, rfl, rfl⟩
  exact hret t1 h' tk' F' N'
-- Sign
local macro_rules | `(tactic| walk_at "call ref") => `(tactic| (k_here; k_dflt (refine' draw_use ?B ?F ?X ?N ?T ?hk ?U ?hx ?hxd ?hI ?hlen ?n0 ?n1 ?k0 ?k1 ?hd ?hu ?_; (case B => k_asm); (case F => k_asm); (case X => k_asm); (case N => k_asm); (case T => k_asm); (case hk => first | exact rfl | assumption); (case U => intro t2; k_upd); (case hx => k_mem); (case hxd => first | assumption | k_ne); (case hI => assumption); (case hlen => assumption); (case n0 => first | assumption | omega); (case n1 => first | assumption | omega); (case k0 => omega); (case k1 => omega); (case hd => ktr_room); (case hu => ktr_units); k_whole; intro d1 t1 t2 h' tk' F' N' hd0 hd1; (try dsimp only); (try k_sweep); (try k_fold))))
set_option maxRecDepth 100000 in
set_option maxHeartbeats 8000000 in
theorem sign_ok (w : World) (mean : ExcName → Option Value) (mg mb : Str → Option Value) (dk xs : Addr) (vs : List Value) (ns : List Int) (e e2 : Nat) (n : Int) (t : Tok) (rest : List (Addr × Obj))
    (hI : IntsAre vs ns) (hlen : ns.length ≤ 60) (hxd : xs ≠ dk) (hne : ∀ p ∈ rest, p.1 ≠ dk) (hn0 : 0 ≤ n) (hn1 : n < 900) :
    Ctr w mean mg mb 3 354 [.ref dk] ((dk, listOf #[.ref xs, .int n t] e) :: (xs, listOf vs.toArray e2) :: rest)
      (fun r news' => ∃ sg c l t1 t2 t3 e3, r = .ref sg ∧ c ∈ kindsL ∧ l ∈ subs 7 ∧ AllLt sg ((dk, listOf #[.ref xs, .int (n + 8) t2] e) :: (xs, listOf vs.toArray e2) :: rest) ∧
        news' = (sg, tupOf #[.str (sgn c) t1, .str (txt l) t3] e3) :: (dk, listOf #[.ref xs, .int (n + 8) t2] e) :: (xs, listOf vs.toArray e2) :: rest) := by
  w_on
  unfold Ctr
  k_fill
  intro dp un gd cn cs a ccd cl outer A₀ base h₀ L m s Q E B F X N T hk hd hu hret
  refine wpAny_call ?_
  k_dflt ktn_open
  w_strict (
    k_steps
    rename_i gA LA hA tkA FGA BA XA TA lA oA dA d1 u1 u2 hB tkB hd0 hd1 kx hC FC NC
    refine ⟨_, _, _, rfl, rfl, FC, NC, by decide, fun g => ?_⟩
    refine CompRestT.induct (n := 7) (fun i ys news => ∃ l t2 c, c = n + 1 + (i : Int) ∧ l ∈ subs i ∧ StrsAre ys (l.map sgn) ∧ news = (LA + 1, oA) :: (dk, listOf #[.ref xs, .int c t2] e) :: (xs, listOf vs.toArray e2) :: rest) ?fin ?step _ 0 [] _ rfl ⟨[], _, _, (by omega), (by decide), .nil, rfl⟩
    case fin =>
      rintro ys news ⟨l, t2, c, hc, hl, hS, rfl⟩
      k_steps
      · rw [sum_len_sgn, List.length_map, show (Str.ofString "").length = 0 from by decide]
        have := subs_len l hl
        omega
      · obtain ⟨cc, hcc, he⟩ := kind_at d1 hd0 hd1
        obtain rfl : c = n + 8 := by omega
        rename (_ < _ ∧ _ < _ ∧ _ < _ ∧ _ < _ ∧ AllLt _ _) => l9
        rename News h₀ L _ _ => N9
        rw [he, subs_join l hl] at N9
        exact hret _ _ _ _ (by k_asm) (news_sub N9 (by lcg_sub)) ⟨_, cc, l, _, _, _, _, rfl, hcc, hl, ⟨l9.2.2.1, l9.2.2.2.1, l9.2.2.2.2⟩, rfl⟩
    case step =>
      rintro i ys news hi ⟨l, t2, c, hc, hl, hS, rfl⟩
      have q0 : 0 ≤ c := by omega
      have q1 : c < 1000 := by omega
      rintro v I oI C oC D m₂ h tk E' ⟨cc, u, hcc, rfl⟩ hC' hx F' N' off ne
      rw [alpha_at i hi] at hcc
      cases hcc
      simp only [LCg.Off3] at off
      obtain ⟨⟨p1, p2, p3⟩, ⟨p4, p5, p6⟩, ⟨p7, p8, p9⟩, p0⟩ := id off
      obtain ⟨n1, n2, n3⟩ := id ne
      k_steps
      · refine LCg.CompEnd.intro (by assumption) (by assumption) _ (fun p hp => hp) (by exact off) trivial ⟨_, _, _, (by omega), subs_take hl, ?_, rfl⟩
        rw [List.map_append]
        exact strsAre_snoc hS _ _
      · exact LCg.CompEnd.intro (by assumption) (by assumption) _ (fun p hp => hp) (by exact off) trivial ⟨l, _, _, (by omega), subs_skip hl, hS, rfl⟩)

theorem sign_use {w : World} {mean : ExcName → Option Value} {mg mb : Str → Option Value} {dk xs : Addr} {vs : List Value} {ns : List Int} {e e2 : Nat} {n : Int} {t : Tok} {news : List (Addr × Obj)} {news' : Tok → List (Addr × Obj)}
    {dp un : Nat} {gd : Option (List Code)} {cn : Str} {cs : Scope} {a : Addr} {ccd : Value} {cl : List (Str × Addr)} {outer : List Env} {A₀ : Around} {base h₀ : Heap} {L : Addr} {m : Str → Option Value} {s : Shared} {Q E : Value → Shared → Prop}
    (B : Below A₀ base outer h₀) (F : Fr h₀ L s.heap m) (X : (K0 w.params).In h₀) (N : News h₀ L s.heap news)
    (T : Top view0 (looseW view0 [Str.ofString "ParseState"]) mean mg mb h₀) (hk : cs.kind = .function)
    (U : ∀ t2, Upd dk (listOf #[.ref xs, .int n t] e) (listOf #[.ref xs, .int (n + 8) t2] e) news (news' t2))
    (hx : (xs, listOf vs.toArray e2) ∈ news) (hxd : xs ≠ dk) (hI : IntsAre vs ns) (hlen : ns.length ≤ 60) (hn0 : 0 ≤ n) (hn1 : n < 900) (hd : dp + 3 < recursionLimit) (hu : un + 8 * 3 < cLine)
    (hret : ∀ sg c l t1 t2 t3 e3 h' tk', Fr h₀ L h' m → News h₀ L h' ((sg, tupOf #[.str (sgn c) t1, .str (txt l) t3] e3) :: news' t2) → c ∈ kindsL → l ∈ subs 7 → (∀ p ∈ news, p.1 < sg) → Q (.ref sg) { s with heap := h', toks := tk' }) :
    wpAny (model Challenge.rw_ok0055_01.row.prog w) (ktrTop dp un gd cn cs L a ccd cl outer) (call (.ref 354) [.ref dk]) Q E s := by
  obtain ⟨pre, post, h1, _, h2, h3⟩ := (U 0).split
  have hne : ∀ p ∈ pre ++ post, p.1 ≠ dk := fun p hp => (List.mem_append.mp hp).elim (h2 p) (h3 p)
  have hin : ∀ p ∈ news, p.1 ≠ dk → p ∈ pre ++ post := fun p hp hn => by
    rw [h1] at hp
    rcases List.mem_append.mp hp with hp | hp
    · exact List.mem_append.mpr (.inl hp)
    · rcases List.mem_cons.mp hp with rfl | hp
      · exact absurd rfl hn
      · exact List.mem_append.mpr (.inr hp)
  refine sign_ok w mean mg mb dk xs vs ns e e2 n t (pre ++ post) hI hlen hxd hne hn0 hn1 dp un gd cn cs a ccd cl outer A₀ base h₀ L m s Q E B F X ?_ T hk hd hu ?_
  · refine news_sub N fun p hp => ?_
    rcases List.mem_cons.mp hp with rfl | hp
    · rw [h1]; exact List.mem_append.mpr (.inr (.head _))
    · rcases List.mem_cons.mp hp with rfl | hp
      · exact hx
      · rw [h1]
        exact (List.mem_append.mp hp).elim (fun h => List.mem_append.mpr (.inl h)) fun h => List.mem_append.mpr (.inr (.tail _ h))
  · rintro r n1 h' tk' F' N' ⟨sg, c, l, t1, t2, t3, e3, rfl, hc, hl, hlt, rfl⟩
    refine hret sg c l t1 t2 t3 e3 h' tk' F' (news_sub N' fun p hp => ?_) hc hl fun p hp => ?_
    · rcases List.mem_cons.mp hp with rfl | hp
      · exact .head _
      · refine .tail _ ?_
        obtain ⟨pre2, post2, g1, g1', g2, g3⟩ := (U t2).split
        rw [g1'] at hp
        rcases List.mem_append.mp hp with hp | hp
        · exact .tail _ (.tail _ (hin p (by rw [g1]; exact List.mem_append.mpr (.inl hp)) (g2 p hp)))
        · rcases List.mem_cons.mp hp with rfl | hp
          · exact .head _
          · exact .tail _ (.tail _ (hin p (by rw [g1]; exact List.mem_append.mpr (.inr (.tail _ hp))) (g3 p hp)))
    · have hall := ktn_ltOf hlt
      by_cases hp1 : p.1 = dk
      · rw [hp1]; exact hlt.1
      · exact hall p (.tail _ (.tail _ (hin p hp hp1)))
end
section
-- Read
local macro_rules | `(tactic| walk_at "eval ListComp") => `(tactic| (k_here; k_dflt (refine ListComp_SU (F₀ := by k_asm) (by with_unfolding_all rfl) (by decide) (by rfl) (by decide) (by rfl) ?_)))
local macro_rules | `(tactic| lcg_sub) => `(tactic| (intro p9 hp9; first | exact hp9 | exact .tail _ hp9 | exact .tail _ (.tail _ hp9) | exact .tail _ (.tail _ (.tail _ hp9)) | exact .tail _ (.tail _ (.tail _ (.tail _ hp9))) | exact .tail _ (.tail _ (.tail _ (.tail _ (.tail _ hp9))))))
local macro_rules | `(tactic| lcg_off) => `(tactic| assumption)
local macro_rules | `(tactic| lsm_bools) => `(tactic| assumption)
local macro_rules | `(tactic| walk_at "call ref") => `(tactic| (k_here; k_dflt (refine' sorted_use ?B ?F ?X ?N ?T ?hk ?hl ?hx ?hd ?hu ?_; (case B => k_asm); (case F => k_asm); (case X => k_asm); (case N => k_asm); (case T => k_asm); (case hk => first | exact rfl | assumption); (case hx => assumption); (case hl => assumption); (case hd => ktr_room); (case hu => ktr_units); k_whole; intro t1 h' tk' F' N'; (try dsimp only); (try k_sweep); (try k_fold))))
theorem bools_snoc {vs : List Value} {bs : List Bool} {b : Bool} (h : LSm.BoolsAre vs bs) : LSm.BoolsAre (vs ++ [.bool b]) (bs ++ [b]) := by
  induction h with
  | nil => exact .cons b .nil
  | cons z _ ih => exact .cons z ih
set_option maxRecDepth 100000 in
set_option maxHeartbeats 8000000 in
theorem read_ok (w : World) (mean : ExcName → Option Value) (mg mb : Str → Option Value) (x : Str) (c : Nat) (l : List Nat) (t : Tok) (rest : List (Addr × Obj)) (hc : c ∈ kindsL) (hl : l ∈ subs 7) (hx : x = txt (c :: 32 :: l)) (hxl : x.length ≤ 100) :
    Ctr w mean mg mb 4 100 [.str x t] rest 
      (fun r news' => ∃ sx dx u1 u2 u3 t1 t3, r = .ref sx ∧ AllLt dx rest ∧ dx < sx ∧ news' = (sx, instObj 86 dx) :: (dx, synD w c l u1 u2 u3 t1 t3) :: rest) := by
  w_on
  unfold Ctr
  k_fill
  intro dp un gd cn cs a ccd cl outer A₀ base h₀ L m s Q E B F X N T hk hd hu hret
  refine wpAny_call ?_
  k_dflt ktr_enter
  obtain ⟨r1, r2, r3, r4, r5, r6, r7⟩ := read_facts c hc l hl
  rw [← hx] at r1 r2 r3 r4 r5 r6 r7
  have r8 : ¬ ((x.length : Int) < 2) := by omega
  unfold KINDS at r7
  w_strict (
    iterate 160 (first | (with_reducible show SrcSU _ _ _ _ _ _ _ _ _ _ _ _ _ _) | (k_unfold; (try dsimp only)) | walk1 | (dsimp only; walk1) | (leave1; try dsimp only))
    refine ⟨_, _, _, rfl, rfl, (by k_asm), (by k_asm), (by rw [r5]; exact Nat.le_trans (subs_len l hl) (by decide +kernel)), fun g => ?_⟩
    refine CompRest.induct (n := (Txt.slice x (some 2) none).cps.size) (fun i ys news => (∃ bs, LSm.BoolsAre ys bs ∧ bs.all id = true) ∧ news = rest) ?fin ?step _ 0 [] _ rfl ⟨⟨[], .nil, rfl⟩, rfl⟩
    case fin =>
      rintro ys news ⟨⟨bs, hS, hall⟩, rfl⟩
      k_steps
      rename (_ < _ ∧ AllLt _ _) => l8
      rename (_ < _) => l9
      rename News h₀ L _ (_ :: _) => N9
      rw [r4] at N9
      exact hret _ _ _ _ (by k_asm) (news_sub N9 (by lcg_sub)) ⟨_, _, _, _, _, _, _, rfl, l8.2, l9, rfl⟩
    case step =>
      rintro i ys news hi ⟨⟨bs, hS, hall⟩, rfl⟩ v I oI C oC D m₂ h tk E' ⟨cc, u, hcc, rfl⟩ hC' hx F' N' off ne
      rw [r5] at hcc
      have hcl : cc ∈ l := Array.mem_toList_iff.mpr (Array.mem_of_getElem? hcc)
      have hoc := occ_txt flagsL cc
      rw [flags_in l hl cc hcl, ← flags_txt] at hoc
      have hoc' : (Builtin.Str.occurrences (Str.ofString "1234bcnp") ⟨#[cc]⟩ 0 (Str.ofString "1234bcnp").length 1).isEmpty = false := hoc
      k_steps
      exact LCg.CompEnd.intro (by assumption) (by assumption) _ (fun p hp => hp) (by exact off) trivial ⟨⟨bs ++ [_], bools_snoc hS, by simp only [List.all_append, hall, List.all_cons, List.all_nil, hoc', id_eq]; rfl⟩, rfl⟩)

theorem read_use {w : World} {mean : ExcName → Option Value} {mg mb : Str → Option Value} {x : Str} {c : Nat} {l : List Nat} {t : Tok} {news : List (Addr × Obj)}
    {dp un : Nat} {gd : Option (List Code)} {cn : Str} {cs : Scope} {a : Addr} {ccd : Value} {cl : List (Str × Addr)} {outer : List Env} {A₀ : Around} {base h₀ : Heap} {L : Addr} {m : Str → Option Value} {s : Shared} {Q E : Value → Shared → Prop}
    (B : Below A₀ base outer h₀) (F : Fr h₀ L s.heap m) (X : (K0 w.params).In h₀) (N : News h₀ L s.heap news)
    (T : Top view0 (looseW view0 [Str.ofString "ParseState"]) mean mg mb h₀) (hk : cs.kind = .function) (hc : c ∈ kindsL) (hl : l ∈ subs 7) (hx : x = txt (c :: 32 :: l)) (hd : dp + 4 < recursionLimit) (hu : un + 8 * 4 < cLine)
    (hret : ∀ sx dx u1 u2 u3 t1 t3 h' tk', Fr h₀ L h' m → News h₀ L h' ((sx, instObj 86 dx) :: (dx, synD w c l u1 u2 u3 t1 t3) :: news) → (∀ p ∈ news, p.1 < dx) → dx < sx → Q (.ref sx) { s with heap := h', toks := tk' }) :
    wpAny (model Challenge.rw_ok0055_01.row.prog w) (ktrTop dp un gd cn cs L a ccd cl outer) (call (.ref 100) [.str x t]) Q E s := by
  refine read_ok w mean mg mb x c l t news hc hl hx ?_ dp un gd cn cs a ccd cl outer A₀ base h₀ L m s Q E B F X N T hk hd hu ?_
  · obtain ⟨_, _, _, _, _, r6, _⟩ := read_facts c hc l hl
    have := subs_len l hl
    rw [hx, r6]; omega
  rintro r n1 h' tk' F' N' ⟨sx, dx, u1, u2, u3, t1, t3, rfl, hlt, h2, rfl⟩
  exact hret sx dx u1 u2 u3 t1 t3 h' tk' F' N' (ktn_ltOf hlt) h2
end
section
-- LawB
local macro_rules | `(tactic| walk_at "eval ListComp") => `(tactic| (k_here; k_dflt (refine LCg.ListComp_U (F₀ := by k_asm) (by with_unfolding_all rfl) (by decide) (by rfl) (by decide) (by rfl) ?_)))
local macro_rules | `(tactic| lcg_sub) => `(tactic| (intro p9 hp9; first | exact hp9 | exact .tail _ hp9 | exact .tail _ (.tail _ hp9) | exact .tail _ (.tail _ (.tail _ hp9)) | exact .tail _ (.tail _ (.tail _ (.tail _ hp9))) | exact .tail _ (.tail _ (.tail _ (.tail _ (.tail _ hp9))))))
set_option maxRecDepth 100000 in
set_option maxHeartbeats 8000000 in
theorem stmt1 (w : World) (mean : ExcName → Option Value) (mg mb : Str → Option Value) (fa L dk xs : Addr) (cd : Value) (ys : List Value) (ms : List Int) (base h₀ : Heap) (m : Str → Option Value) (o1 o2 : Obj) (t : Tok) (v2 : Option Value) (R : List (Addr × Obj)) (s : Shared) (Q : Flow → Shared → Prop) (E : Value → Shared → Prop)
    (B : Below callerA base [] h₀) (F : Fr h₀ L s.heap m) (X : (K0 w.params).In h₀) (N : News h₀ L s.heap ((L + 1, o1) :: (L + 1 + 1, o2) :: (dk, listOf #[.ref xs, .int 0 t] 0) :: (xs, LCg.lst ys) :: R)) (T : Top view0 (looseW view0 [Str.ofString "ParseState"]) mean mg mb h₀)
    (hI : IntsAre ys ms) (hlen : ms.length ≤ 60) (hd1 : o1.data = .cell (some (.ref dk))) (hd2 : o2.data = .cell v2) (hR2 : ∀ p ∈ R, p.1 ≠ L + 1 + 1) (hRd : ∀ p ∈ R, p.1 ≠ dk) (hxd : xs ≠ dk) (hx2 : xs ≠ L + 1 + 1) (hdk : L + 1 + 1 < dk)
    (hret : ∀ rows t2 c sl tb td rw ro u1 u2 o2' tk' h', rows.length = 5 → (∀ r ∈ rows, SgE.Ok r) → List.Pairwise (fun a b : SgE => b.a < a.a) rows →
      (∀ r ∈ rows, AllLt r.a ((L + 1, o1) :: (L + 1 + 1, o2) :: (dk, listOf #[.ref xs, .int c t2] 0) :: (xs, LCg.lst ys) :: R)) → c = 40 →
      (L + 1 ≠ sl ∧ L + 1 + 1 ≠ sl ∧ dk ≠ sl ∧ xs ≠ sl ∧ LCg.Off1 sl (rows.map SgE.ent ++ R)) →
      AllLt td ((sl, LCg.lst (rows.reverse.map fun r : SgE => Value.ref r.a)) :: (L + 1, o1) :: (L + 1 + 1, o2) :: (dk, listOf #[.ref xs, .int c t2] 0) :: (xs, LCg.lst ys) :: (rows.map SgE.ent ++ R)) → td < tb →
      AllLt rw ((tb, instObj 167 td) :: (td, tabD w rw u1 u2) :: (sl, LCg.lst (rows.reverse.map fun r : SgE => Value.ref r.a)) :: (L + 1, o1) :: (L + 1 + 1, o2) :: (dk, listOf #[.ref xs, .int c t2] 0) :: (xs, LCg.lst ys) :: (rows.map SgE.ent ++ R)) →
      (rw == sysModules) = false → Obj.IsDictOf (intKind Challenge.rw_ok0055_01.row.prog w) ro [] → PyProof.V.FlatPairs PyData.int [] [] → o2'.data = .cell (some (.ref sl)) →
      Fr h₀ L h' (fun y => if y = Str.ofString "table" then some (.ref tb) else m y) →
      News h₀ L h' ((rw, ro) :: (tb, instObj 167 td) :: (td, tabD w rw u1 u2) :: (sl, LCg.lst (rows.reverse.map fun r : SgE => Value.ref r.a)) :: (L + 1, o1) :: (L + 1 + 1, o2') :: (dk, listOf #[.ref xs, .int c t2] 0) :: (xs, LCg.lst ys) :: (rows.map SgE.ent ++ R)) →
      Q .next { s with heap := h', toks := tk' }) :
    wpAny (model Challenge.rw_ok0055_01.row.prog w) (callerA.deeper (envLaw L fa cd)) (exec (lawBody.getD 1 (.Pass ⟨0, 0, 0, 0⟩)) (envLaw L fa cd)) Q E s := by
  w_on
  revert X
  k_fill
  intro X
  unfold envLaw
  obtain ⟨sc, hsc⟩ : ∃ sc, sc = lawScope := ⟨_, rfl⟩
  rw [← hsc]
  conv at hsc => rhs; whnf
  subst hsc
  conv => arg 3; arg 1; whnf
  w_strict (
    iterate 11 (first | (k_unfold; (try dsimp only)) | walk1 | (dsimp only; walk1))
    refine LCg.CompSrc.range (n := 5) (by rfl) (by k_asm) (by k_asm) (by assumption) (by decide) (by rfl) (by size_fits) fun g => ?_
    refine CompRest.induct (n := 5) (fun i zs news => ∃ rows t2 c, rows.length = i ∧ c = 8 * (i : Int) ∧ zs = rows.reverse.map (fun r : SgE => Value.ref r.a) ∧ (∀ r ∈ rows, r.Ok) ∧ List.Pairwise (fun a b : SgE => b.a < a.a) rows ∧
      (∀ r ∈ rows, AllLt r.a ((L + 1, o1) :: (L + 1 + 1, o2) :: (dk, listOf #[.ref xs, .int c t2] 0) :: (xs, LCg.lst ys) :: R)) ∧
      news = (L + 1, o1) :: (L + 1 + 1, o2) :: (dk, listOf #[.ref xs, .int c t2] 0) :: (xs, LCg.lst ys) :: (rows.map SgE.ent ++ R)) ?fin ?step _ 0 [] _ rfl ⟨[], t, 0, rfl, by omega, rfl, (fun _ h => nomatch h), .nil, (fun _ h => nomatch h), rfl⟩
    case fin =>
      rintro zs news ⟨rows, t2, c, hr1, hr2, rfl, hr4, hr5, hr6, rfl⟩
      obtain ⟨R9, hR9⟩ : ∃ R9, R9 = rows.map SgE.ent ++ R := ⟨_, rfl⟩
      obtain ⟨zs, hzs⟩ : ∃ zs, zs = rows.reverse.map (fun r : SgE => Value.ref r.a) := ⟨_, rfl⟩
      rw [← hR9, ← hzs]
      have hne2 : ∀ p ∈ R9, p.1 ≠ L + 1 + 1 := by
        intro p hp; rw [hR9] at hp
        rcases List.mem_append.mp hp with hp | hp
        · obtain ⟨r, hr, rfl⟩ := List.mem_map.mp hp
          exact Nat.ne_of_gt (hr6 r hr).2.1
        · exact hR2 p hp
      k_steps
      have hall2 : ∀ p ∈ ((dk, listOf #[.ref xs, .int c t2] 0) :: (xs, LCg.lst ys) :: R9), p.1 ≠ L + 1 + 1 := List.forall_mem_cons.mpr ⟨Nat.ne_of_gt hdk, List.forall_mem_cons.mpr ⟨hx2, hne2⟩⟩
      k_steps
      rename News h₀ L _ (_ :: _) => N9
      rename (_ = Data.cell (some _)) => d9
      rename (_ ≠ _ ∧ _ ≠ _ ∧ _ ≠ _ ∧ _ ≠ _ ∧ LCg.Off1 _ _) => l9
      rename Obj.IsDictOf (intKind _ _) _ _ => i9
      rename ((_ == sysModules) = false) => lo9
      rename (_ < _ ∧ _ < _ ∧ _ < _ ∧ _ < _ ∧ _ < _ ∧ AllLt _ R9) => la9
      rename (_ < _ ∧ _ < _ ∧ _ < _ ∧ _ < _ ∧ _ < _ ∧ _ < _ ∧ _ < _ ∧ AllLt _ R9) => lb9
      subst hzs hR9
      exact hret rows t2 c _ _ _ _ _ _ _ _ _ _ hr1 hr4 hr5 hr6 (by omega) l9 la9 (by assumption) lb9 lo9 i9 .nil d9 (by assumption) (news_sub N9 (fun p hp => .tail _ hp))
    case step =>
      rintro i zs news hi ⟨rows, t2, c, hr1, hr2, rfl, hr4, hr5, hr6, rfl⟩ v I oI C oC D m₂ h tk E' hv hC' hx F' N' off ne
      obtain ⟨R9, hR9⟩ : ∃ R9, R9 = rows.map SgE.ent ++ R := ⟨_, rfl⟩
      rw [← hR9] at N' off
      have hne9 : ∀ p ∈ R9, p.1 ≠ dk := by
        intro p hp; rw [hR9] at hp
        rcases List.mem_append.mp hp with hp | hp
        · obtain ⟨r, hr, rfl⟩ := List.mem_map.mp hp
          exact Nat.ne_of_gt (hr6 r hr).2.2.1
        · exact hRd p hp
      have hne : ∀ p ∈ ((I, oI) :: (C, oC) :: (D, LCg.lst (rows.reverse.map fun r : SgE => Value.ref r.a)) :: (L + 1, o1) :: (L + 1 + 1, o2) :: R9), p.1 ≠ dk := by
        refine List.forall_mem_cons.mpr ⟨Ne.symm off.2.2.1.1, List.forall_mem_cons.mpr ⟨Ne.symm off.2.2.1.2.1, List.forall_mem_cons.mpr ⟨Ne.symm off.2.2.1.2.2, List.forall_mem_cons.mpr ⟨?_, List.forall_mem_cons.mpr ⟨?_, hne9⟩⟩⟩⟩⟩
        · exact Nat.ne_of_lt (Nat.lt_trans (Nat.lt_succ_self _) hdk)
        · exact Nat.ne_of_lt hdk
      iterate 8 (first | (k_unfold; (try dsimp only)) | walk1 | (dsimp only; walk1))
      refine Ctr.use (sign_ok w mean mg mb dk xs ys ms 0 ys.length c t2 _ hI hlen hxd hne (by omega) (by omega)) (by k_asm) (by k_asm) (by k_asm) (news_sub N' ?_) (by k_asm) (by first | exact rfl | assumption) (by ktr_room) (by ktr_units) ?_
      · intro p hp
        simp only [List.mem_cons] at hp ⊢
        rcases hp with h | h | h | h | h | h | h | h <;> simp [h]
      rintro r n1 h' tk' F1 N1 ⟨sg, c9, l9, u1, u2, u3, e3, rfl, hc9, hl9, hlt, rfl⟩
      k_unfold
      dsimp only
      have hltR : AllLt sg R9 := hlt.2.2.2.2.2.2.2
      refine LCg.CompEnd.intro F1 N1 ((L + 1, o1) :: (L + 1 + 1, o2) :: (dk, listOf #[.ref xs, .int (c + 8) u2] 0) :: (xs, LCg.lst ys) :: (((⟨sg, c9, l9, u1, u3, e3⟩ : SgE) :: rows).map SgE.ent ++ R)) ?_ ?_ trivial ?_
      · intro p hp
        rw [List.map_cons, List.cons_append, ← hR9] at hp
        simp only [List.mem_cons] at hp ⊢
        rcases hp with h | h | h | h | h | h | h | h | h <;> simp [h, SgE.ent]
      · rw [List.map_cons, List.cons_append, ← hR9]
        exact ⟨off.1, off.2.1, off.2.2.1, off.2.2.2.1, ⟨Nat.ne_of_gt hlt.2.2.1, Nat.ne_of_gt hlt.2.2.2.1, Nat.ne_of_gt hlt.2.2.2.2.1⟩, off.2.2.2.2⟩
      · refine ⟨_, u2, c + 8, by rw [List.length_cons, hr1], by omega, by simp, List.forall_mem_cons.mpr ⟨⟨hc9, hl9⟩, hr4⟩, .cons (fun r hr => ?_) hr5, List.forall_mem_cons.mpr ⟨⟨hlt.2.2.2.2.2.1, hlt.2.2.2.2.2.2.1, hlt.1, hlt.2.1, ?_⟩, hr6⟩, rfl⟩
        · exact ktn_ltOf hltR r.ent (by rw [hR9]; exact List.mem_append_left _ (List.mem_map_of_mem hr))
        · exact allLt_of fun p hp => ktn_ltOf hltR p (by rw [hR9]; exact List.mem_append_right _ hp))
-- LawA
local macro_rules | `(tactic| walk_at "pad") => `(tactic| fail)
local macro_rules | `(tactic| k_updF) => `(tactic| (refine' UpdF.head ?a; (case a => first | assumption | k_all)))
set_option maxRecDepth 100000 in
set_option maxHeartbeats 8000000 in
theorem stmt0 (w : World) (mean : ExcName → Option Value) (mg mb : Str → Option Value) (fa L scr : Addr) (cd : Value) (vs : List Value) (ns : List Int) (base h₀ : Heap) (m : Str → Option Value) (o1 : Obj) (v1 : Option Value) (R : List (Addr × Obj)) (s : Shared) (Q : Flow → Shared → Prop) (E : Value → Shared → Prop)
    (B : Below callerA base [] h₀) (F : Fr h₀ L s.heap m) (X : (K0 w.params).In h₀) (N : News h₀ L s.heap ((L + 1, o1) :: R)) (T : Top view0 (looseW view0 [Str.ofString "ParseState"]) mean mg mb h₀)
    (hm : m (Str.ofString "script") = some (.ref scr)) (hl : h₀.IsList scr vs.toArray) (hI : IntsAre vs ns) (hn : ns.length ≤ 63) (hd1 : o1.data = .cell v1) (hR : ∀ p ∈ R, p.1 ≠ L + 1)
    (hret : ∀ dk xs ys ms o1' t tk' h', IntsAre ys ms → ms.length ≤ 60 → AllLt dk ((xs, LCg.lst ys) :: (L + 1, o1') :: R) → L + 1 ≠ xs → LCg.Off1 xs R → Fr h₀ L h' m → News h₀ L h' ((dk, listOf #[.ref xs, .int 0 t] 0) :: (xs, LCg.lst ys) :: (L + 1, o1') :: R) → o1'.data = .cell (some (.ref dk)) → Q .next { s with heap := h', toks := tk' }) :
    wpAny (model Challenge.rw_ok0055_01.row.prog w) (callerA.deeper (envLaw L fa cd)) (exec (lawBody.getD 0 (.Pass ⟨0, 0, 0, 0⟩)) (envLaw L fa cd)) Q E s := by
  w_on
  revert X
  k_fill
  intro X
  unfold envLaw
  obtain ⟨sc, hsc⟩ : ∃ sc, sc = lawScope := ⟨_, rfl⟩
  rw [← hsc]
  conv at hsc => rhs; whnf
  subst hsc
  conv => arg 3; arg 1; whnf
  w_strict (
    k_steps
    rename_i DA wsA hA FA NA hIA hCA hLA lA
    refine LCg.CompSrc.ledger (by rfl) FA NA (.head _) (by rw [List.size_toArray, hIA.length]; exact Nat.le_trans (Nat.le_trans hLA hn) (by decide +kernel)) fun g => ?_
    refine CompRest.induct (n := wsA.toArray.size) (fun i ys news => ∃ ms, IntsAre ys ms ∧ ms.length = i ∧ news = (DA, listOf wsA.toArray 0) :: (L + 1, o1) :: R) ?fin ?step _ 0 [] _ rfl ⟨[], .nil, rfl, rfl⟩
    case fin =>
      rintro ys news ⟨ms, hm1, hm2, rfl⟩
      k_steps
      rename (_ < _ ∧ _ < _ ∧ _ < _ ∧ AllLt _ _) => l9
      rename (_ ≠ _ ∧ _ ≠ _ ∧ LCg.Off1 _ _) => l8
      rename (_ = Data.cell (some _)) => d9
      rename News _ _ _ (_ :: _) => N9
      exact hret _ _ _ ms _ _ _ _ hm1 (by rw [hm2, List.size_toArray, hIA.length, hCA]; exact Nat.min_le_left _ _) ⟨l9.1, l9.2.2.1, l9.2.2.2⟩ l8.2.1 l8.2.2 (by assumption) (news_sub N9 (by lcg_sub)) d9
    case step =>
      rintro i ys news hi ⟨ms, hm1, hm2, rfl⟩ v I oI C oC D m₂ h tk E' hv hC' hx F' N' off ne
      have hi' : i < (ns.take 60).length := by rw [← hIA.length]; simpa using hi
      obtain ⟨t9, hv9⟩ := hIA.get i (ns.take 60)[i] (List.getElem?_eq_getElem hi')
      obtain rfl : v = .int (ns.take 60)[i] t9 := by
        have : wsA[i]? = some v := by simpa using hv
        rw [hv9] at this; exact (Option.some.inj this).symm
      k_steps
      refine LCg.CompEnd.intro (by assumption) (by assumption) _ (fun p hp => hp) (by exact off) (.inr ⟨_, .head _, rfl, _, rfl⟩) ⟨ms ++ [_], IntsAre.append hm1 (.cons _ _ .nil), by rw [List.length_append, hm2]; rfl, rfl⟩)
end
section
-- LawC2
theorem cat_txt (c : Nat) (l : List Nat) : (sgn c ++ Str.ofString " ") ++ txt l = txt (c :: 32 :: l) := by
  apply Str.ext'
  simp [sgn, txt, Str.cps_append]
  rfl
noncomputable def body2 : List Stmt := forBody (lawBody.getD 2 (.Pass ⟨0, 0, 0, 0⟩))
local macro_rules | `(tactic| walk_at "call ref") => `(tactic| (k_here; (with_reducible show wpAny _ _ (call (Value.ref 100) _) _ _ _); k_dflt (refine' read_use ?B ?F ?X ?N ?T ?hk ?hc ?hl ?hx ?hd ?hu ?_; (case B => k_asm); (case F => k_asm); (case X => k_asm); (case N => k_asm); (case T => k_asm); (case hk => first | exact rfl | assumption); (case hx => exact cat_txt _ _); (case hl => assumption); (case hc => assumption); (case hd => ktr_room); (case hu => ktr_units); k_whole; intro sx dx u1 u2 u3 t1 t3 h' tk' F' N' l1 l2; (try k_lt l1); (try k_lt2 l2); (try dsimp only); (try k_sweep); (try k_fold))))
local macro_rules | `(tactic| walk_at "last subscriptTail") => `(tactic| (k_here; k_dflt (refine' item_litK (News.isList ?N ?m) ?h0 ?h1 ?h2 ?_ ?s; (case N => k_asm); (case m => k_mem); (case h0 => omega); (case h1 => omega); (case h2 => assumption); (case s => with_unfolding_all rfl))))
local macro_rules | `(tactic| walk_at "setItem ref int") => `(tactic| (k_here; k_dflt (refine' kda_set (knd := PySem.intKind _ _) ?F ?N ?U ?d (intKind_is _ _ _ _) ?z ?_; (case F => k_asm); (case N => k_asm); (case U => (refine' UpdF.tail ?ua (UpdF.tail ?ub (UpdF.tail ?uc (UpdF.head ?ud))); (case ua => k_ne); (case ub => k_ne); (case uc => k_ne); (case ud => assumption))); (case d => k_asm); (case z => rw [sizeLine_eq]; omega)); intro h' o' F' N' hd'; (try dsimp only at N')))
set_option maxRecDepth 100000 in
set_option maxHeartbeats 4000000 in
theorem turn2 (w : World) (mean : ExcName → Option Value) (mg mb : Str → Option Value) (fa L tb td rw sl : Addr) (cd : Value) (base h₀ : Heap) (m : Str → Option Value) (o2 ro : Obj) (e : Nat) (u1 u2 : Tok) (kvs : List (Int × Value)) (refs : List Value) (a : Int) (ta : Tok) (r : SgE) (I : Addr) (oI : Obj) (R : List (Addr × Obj)) (s : Shared) (Q : Flow → Shared → Prop)
    (B : Below callerA base [] h₀) (F : Fr h₀ L s.heap m) (X : (K0 w.params).In h₀) (N : News h₀ L s.heap ((I, oI) :: (rw, ro) :: R)) (T : Top view0 (looseW view0 [Str.ofString "ParseState"]) mean mg mb h₀)
    (hI : @LT.lt Nat _ rw I) (hR : ∀ p ∈ R, p.1 ≠ rw)
    (g1 : (tb, instObj 167 td) ∈ R) (g2 : (td, tabD w rw u1 u2) ∈ R) (g3 : (sl, listOf refs.toArray e) ∈ R) (g4 : (L + 1 + 1, o2) ∈ R) (g5 : (r.a, tupOf #[.str (sgn r.c) r.t1, .str (txt r.l) r.t3] r.e) ∈ R)
    (ha0 : 0 ≤ a) (ha1 : a < 5) (hl5 : refs.length = 5) (hra : refs[a.toNat]? = some (.ref r.a))
    (hm1 : m (Str.ofString "table") = some (.ref tb)) (hm2 : m (Str.ofString "at") = some (.int a ta)) (hd2 : o2.data = .cell (some (.ref sl))) (hlo : (rw == sysModules) = false) (hro : Obj.IsDictOf (intKind Challenge.rw_ok0055_01.row.prog w) ro kvs) (hkl : kvs.length ≤ 10)
    (hc : r.c ∈ kindsL) (hl : r.l ∈ subs 7)
    (hret : ∀ (y : SyE) ro' h' tk', Obj.IsDictOf (intKind Challenge.rw_ok0055_01.row.prog w) ro' (stored kvs (97 + a) (.ref y.s)) → @LT.lt Nat _ I y.d → @LT.lt Nat _ rw y.d → @LT.lt Nat _ y.d y.s → Fr h₀ L h' m → News h₀ L h' ((y.s, instObj 86 y.d) :: (y.d, y.obj w r) :: (I, oI) :: (rw, ro') :: R) → Q .next { s with heap := h', toks := tk' }) :
    wpAny (model Challenge.rw_ok0055_01.row.prog w) (callerA.deeper (envLaw L fa cd)) (execs body2 (envLaw L fa cd)) Q (fun _ _ => False) s := by
  w_on
  revert X
  k_fill
  intro X
  unfold envLaw
  obtain ⟨sc, hsc⟩ : ∃ sc, sc = lawScope := ⟨_, rfl⟩
  rw [← hsc]
  conv at hsc => rhs; whnf
  subst hsc
  conv => arg 3; arg 1; whnf
  have eb : (Str.ofString " ").length = 1 := by decide
  have ea : (sgn r.c).length = 1 := rfl
  have et : (txt r.l).length ≤ 7 := subs_len _ hl
  w_strict (
    k_steps
    rename (_ < _ ∧ _ < _ ∧ AllLt _ R) => la9
    rename (_ < _) => lb9
    rename Obj.IsDictOf _ _ (stored _ _ _) => hd9
    exact hret ⟨_, _, _, _, _, _, _⟩ _ _ _ hd9 la9.1 la9.2.1 lb9 (by k_asm) (by k_asm))
theorem For_rng {prog : Program} {w : World} {A : Around} {s : Shared} {h₀ : Heap} {L fa : Addr} {cd : Value} {nm x : Str} {sc : Scope} {m : Str → Option Value} {iter : PySem.Expr} {body : List Stmt} {px pos : Pos} {Q : Flow → Shared → Prop} (F : Fr h₀ L s.heap m)
    (hx : (envOfC nm sc L fa cd).kindOf x = some .local) (hp : ((envOfC nm sc L fa cd).scope.kind == .class || ((envOfC nm sc L fa cd).scope.kind == .module && (envOfC nm sc L fa cd).locals != (envOfC nm sc L fa cd).globals)) = false)
    (h : wpAny (model prog w) A (eval iter (envOfC nm sc L fa cd)) (fun xv s₁ => wpAny (model prog w) A (pyIter xv) (fun it s₂ => LoopAtV prog w A h₀ (envOfC nm sc L fa cd) x body Q (fun _ _ => False) it s₂) (fun _ _ => False) s₁) (fun _ _ => False) s)
    (hs : ∀ x, foldedSetIterable iter (envOfC nm sc L fa cd) x = pure x) : wpAny (model prog w) A (exec (.For (.Name x px) iter body [] pos) (envOfC nm sc L fa cd)) Q (fun _ _ => False) s :=
  For_invVF (env := envOfC nm sc L fa cd) F hx hp h hs PassesOwn.never
set_option maxRecDepth 100000 in
set_option maxHeartbeats 2000000 in
theorem turns2 (w : World) (mean : ExcName → Option Value) (mg mb : Str → Option Value) (fa L tb td rw sl : Addr) (cd : Value) (base h₀ : Heap) (m : Str → Option Value) (o2 ro : Obj) (e : Nat) (u1 u2 : Tok) (r0 r1 r2 r3 r4 : SgE) (I : Addr) (R : List (Addr × Obj)) (s : Shared) (Q : Flow → Shared → Prop)
    (B : Below callerA base [] h₀) (X : (K0 w.params).In h₀) (T : Top view0 (looseW view0 [Str.ofString "ParseState"]) mean mg mb h₀)
    (hI : @LT.lt Nat _ rw I) (hR : ∀ p ∈ R, p.1 ≠ rw) (hRI : ∀ p ∈ R, p.1 ≠ I)
    (g1 : (tb, instObj 167 td) ∈ R) (g2 : (td, tabD w rw u1 u2) ∈ R) (g3 : (sl, listOf (List.toArray [.ref r0.a, .ref r1.a, .ref r2.a, .ref r3.a, .ref r4.a]) e) ∈ R) (g4 : (L + 1 + 1, o2) ∈ R)
    (hm : m (Str.ofString "table") = some (.ref tb)) (hd2 : o2.data = .cell (some (.ref sl))) (hlo : (rw == sysModules) = false) (hro : Obj.IsDictOf (intKind Challenge.rw_ok0055_01.row.prog w) ro [])
    (e0 : (r0.a, tupOf #[.str (sgn r0.c) r0.t1, .str (txt r0.l) r0.t3] r0.e) ∈ R) (hc0 : r0.c ∈ kindsL) (hl0 : r0.l ∈ subs 7)
    (e1 : (r1.a, tupOf #[.str (sgn r1.c) r1.t1, .str (txt r1.l) r1.t3] r1.e) ∈ R) (hc1 : r1.c ∈ kindsL) (hl1 : r1.l ∈ subs 7)
    (e2 : (r2.a, tupOf #[.str (sgn r2.c) r2.t1, .str (txt r2.l) r2.t3] r2.e) ∈ R) (hc2 : r2.c ∈ kindsL) (hl2 : r2.l ∈ subs 7)
    (e3 : (r3.a, tupOf #[.str (sgn r3.c) r3.t1, .str (txt r3.l) r3.t3] r3.e) ∈ R) (hc3 : r3.c ∈ kindsL) (hl3 : r3.l ∈ subs 7)
    (e4 : (r4.a, tupOf #[.str (sgn r4.c) r4.t1, .str (txt r4.l) r4.t3] r4.e) ∈ R) (hc4 : r4.c ∈ kindsL) (hl4 : r4.l ∈ subs 7)
    (hQ : ∀ (y0 y1 y2 y3 y4 : SyE) ro' m' h' tk', Obj.IsDictOf (intKind Challenge.rw_ok0055_01.row.prog w) ro' [(97, .ref y0.s), (98, .ref y1.s), (99, .ref y2.s), (100, .ref y3.s), (101, .ref y4.s)] →
      (rw < y0.d ∧ y0.d < y0.s ∧ rw < y1.d ∧ y1.d < y1.s ∧ rw < y2.d ∧ y2.d < y2.s ∧ rw < y3.d ∧ y3.d < y3.s ∧ rw < y4.d ∧ y4.d < y4.s) → m' (Str.ofString "table") = some (.ref tb) → Fr h₀ L h' m' →
      News h₀ L h' ((rw, ro') :: (y4.s, instObj 86 y4.d) :: (y4.d, y4.obj w r4) :: (y3.s, instObj 86 y3.d) :: (y3.d, y3.obj w r3) :: (y2.s, instObj 86 y2.d) :: (y2.d, y2.obj w r2) :: (y1.s, instObj 86 y1.d) :: (y1.d, y1.obj w r1) :: (y0.s, instObj 86 y0.d) :: (y0.d, y0.obj w r0) :: R) → Q .next { s with heap := h', toks := tk' }) :
    RangeRest Challenge.rw_ok0055_01.row.prog w (callerA.deeper (envLaw L fa cd)) (fun _ _ => False) h₀ (envLaw L fa cd) (Str.ofString "at") body2 Q s I 0 5 5 0 m ((rw, ro) :: R) := by
  refine RangeRest.succ fun t0 h0 tk0 F0 N0 => ?_
  refine @turn2 w mean mg mb fa L tb td rw sl cd base h₀ _ o2 ro e u1 u2 [] [.ref r0.a, .ref r1.a, .ref r2.a, .ref r3.a, .ref r4.a] _ t0 r0 I _ _ _ _ B F0 X N0 T hI hR (g1) (g2) (g3) (g4) (e0) (by decide) (by decide) rfl rfl ?_ (if_pos rfl) hd2 hlo hro (Nat.le_of_ble_eq_true rfl) hc0 hl0 ?_
  · rw [if_neg (by decide)]; exact hm
  intro y0 ro1 z0 tz0 d0 i0 v0 s0 G0 M0
  have q1 : Obj.IsDictOf (intKind Challenge.rw_ok0055_01.row.prog w) ro1 [(97, .ref y0.s)] := d0
  have hR1 : ∀ p ∈ (y0.s, instObj 86 y0.d) :: (y0.d, y0.obj w r0) :: R, p.1 ≠ rw := List.forall_mem_cons.mpr ⟨Nat.ne_of_gt (Nat.lt_trans v0 s0), List.forall_mem_cons.mpr ⟨Nat.ne_of_gt v0, hR⟩⟩
  have hJ1 : ∀ p ∈ (y0.s, instObj 86 y0.d) :: (y0.d, y0.obj w r0) :: R, p.1 ≠ I := List.forall_mem_cons.mpr ⟨Nat.ne_of_gt (Nat.lt_trans i0 s0), List.forall_mem_cons.mpr ⟨Nat.ne_of_gt i0, hRI⟩⟩
  refine UnrEnd.intro G0 M0 ((rw, ro1) :: (y0.s, instObj 86 y0.d) :: (y0.d, y0.obj w r0) :: R) (List.forall_mem_cons.mpr ⟨.tail _ (.tail _ (.head _)), List.forall_mem_cons.mpr ⟨.tail _ (.tail _ (.tail _ (.head _))), List.forall_mem_cons.mpr ⟨.head _, List.forall_mem_cons.mpr ⟨.tail _ (.head _), fun p hp => .tail _ (.tail _ (.tail _ (.tail _ (hp))))⟩⟩⟩⟩) (List.forall_mem_cons.mpr ⟨Nat.ne_of_lt hI, hJ1⟩) ?_
  refine RangeRest.succ fun t1 h1 tk1 F1 N1 => ?_
  refine @turn2 w mean mg mb fa L tb td rw sl cd base h₀ _ o2 ro1 e u1 u2 [(97, .ref y0.s)] [.ref r0.a, .ref r1.a, .ref r2.a, .ref r3.a, .ref r4.a] _ t1 r1 I _ _ _ _ B F1 X N1 T hI hR1 (.tail _ (.tail _ (g1))) (.tail _ (.tail _ (g2))) (.tail _ (.tail _ (g3))) (.tail _ (.tail _ (g4))) (.tail _ (.tail _ (e1))) (by decide) (by decide) rfl rfl ?_ (if_pos rfl) hd2 hlo q1 (Nat.le_of_ble_eq_true rfl) hc1 hl1 ?_
  · rw [if_neg (by decide)]; rw [if_neg (by decide)]; exact hm
  intro y1 ro2 z1 tz1 d1 i1 v1 s1 G1 M1
  have q2 : Obj.IsDictOf (intKind Challenge.rw_ok0055_01.row.prog w) ro2 [(97, .ref y0.s), (98, .ref y1.s)] := d1
  have hR2 : ∀ p ∈ (y1.s, instObj 86 y1.d) :: (y1.d, y1.obj w r1) :: (y0.s, instObj 86 y0.d) :: (y0.d, y0.obj w r0) :: R, p.1 ≠ rw := List.forall_mem_cons.mpr ⟨Nat.ne_of_gt (Nat.lt_trans v1 s1), List.forall_mem_cons.mpr ⟨Nat.ne_of_gt v1, hR1⟩⟩
  have hJ2 : ∀ p ∈ (y1.s, instObj 86 y1.d) :: (y1.d, y1.obj w r1) :: (y0.s, instObj 86 y0.d) :: (y0.d, y0.obj w r0) :: R, p.1 ≠ I := List.forall_mem_cons.mpr ⟨Nat.ne_of_gt (Nat.lt_trans i1 s1), List.forall_mem_cons.mpr ⟨Nat.ne_of_gt i1, hJ1⟩⟩
  refine UnrEnd.intro G1 M1 ((rw, ro2) :: (y1.s, instObj 86 y1.d) :: (y1.d, y1.obj w r1) :: (y0.s, instObj 86 y0.d) :: (y0.d, y0.obj w r0) :: R) (List.forall_mem_cons.mpr ⟨.tail _ (.tail _ (.head _)), List.forall_mem_cons.mpr ⟨.tail _ (.tail _ (.tail _ (.head _))), List.forall_mem_cons.mpr ⟨.head _, List.forall_mem_cons.mpr ⟨.tail _ (.head _), fun p hp => .tail _ (.tail _ (.tail _ (.tail _ (hp))))⟩⟩⟩⟩) (List.forall_mem_cons.mpr ⟨Nat.ne_of_lt hI, hJ2⟩) ?_
  refine RangeRest.succ fun t2 h2 tk2 F2 N2 => ?_
  refine @turn2 w mean mg mb fa L tb td rw sl cd base h₀ _ o2 ro2 e u1 u2 [(97, .ref y0.s), (98, .ref y1.s)] [.ref r0.a, .ref r1.a, .ref r2.a, .ref r3.a, .ref r4.a] _ t2 r2 I _ _ _ _ B F2 X N2 T hI hR2 (.tail _ (.tail _ (.tail _ (.tail _ (g1))))) (.tail _ (.tail _ (.tail _ (.tail _ (g2))))) (.tail _ (.tail _ (.tail _ (.tail _ (g3))))) (.tail _ (.tail _ (.tail _ (.tail _ (g4))))) (.tail _ (.tail _ (.tail _ (.tail _ (e2))))) (by decide) (by decide) rfl rfl ?_ (if_pos rfl) hd2 hlo q2 (Nat.le_of_ble_eq_true rfl) hc2 hl2 ?_
  · rw [if_neg (by decide)]; rw [if_neg (by decide)]; rw [if_neg (by decide)]; exact hm
  intro y2 ro3 z2 tz2 d2 i2 v2 s2 G2 M2
  have q3 : Obj.IsDictOf (intKind Challenge.rw_ok0055_01.row.prog w) ro3 [(97, .ref y0.s), (98, .ref y1.s), (99, .ref y2.s)] := d2
  have hR3 : ∀ p ∈ (y2.s, instObj 86 y2.d) :: (y2.d, y2.obj w r2) :: (y1.s, instObj 86 y1.d) :: (y1.d, y1.obj w r1) :: (y0.s, instObj 86 y0.d) :: (y0.d, y0.obj w r0) :: R, p.1 ≠ rw := List.forall_mem_cons.mpr ⟨Nat.ne_of_gt (Nat.lt_trans v2 s2), List.forall_mem_cons.mpr ⟨Nat.ne_of_gt v2, hR2⟩⟩
  have hJ3 : ∀ p ∈ (y2.s, instObj 86 y2.d) :: (y2.d, y2.obj w r2) :: (y1.s, instObj 86 y1.d) :: (y1.d, y1.obj w r1) :: (y0.s, instObj 86 y0.d) :: (y0.d, y0.obj w r0) :: R, p.1 ≠ I := List.forall_mem_cons.mpr ⟨Nat.ne_of_gt (Nat.lt_trans i2 s2), List.forall_mem_cons.mpr ⟨Nat.ne_of_gt i2, hJ2⟩⟩
  refine UnrEnd.intro G2 M2 ((rw, ro3) :: (y2.s, instObj 86 y2.d) :: (y2.d, y2.obj w r2) :: (y1.s, instObj 86 y1.d) :: (y1.d, y1.obj w r1) :: (y0.s, instObj 86 y0.d) :: (y0.d, y0.obj w r0) :: R) (List.forall_mem_cons.mpr ⟨.tail _ (.tail _ (.head _)), List.forall_mem_cons.mpr ⟨.tail _ (.tail _ (.tail _ (.head _))), List.forall_mem_cons.mpr ⟨.head _, List.forall_mem_cons.mpr ⟨.tail _ (.head _), fun p hp => .tail _ (.tail _ (.tail _ (.tail _ (hp))))⟩⟩⟩⟩) (List.forall_mem_cons.mpr ⟨Nat.ne_of_lt hI, hJ3⟩) ?_
  refine RangeRest.succ fun t3 h3 tk3 F3 N3 => ?_
  refine @turn2 w mean mg mb fa L tb td rw sl cd base h₀ _ o2 ro3 e u1 u2 [(97, .ref y0.s), (98, .ref y1.s), (99, .ref y2.s)] [.ref r0.a, .ref r1.a, .ref r2.a, .ref r3.a, .ref r4.a] _ t3 r3 I _ _ _ _ B F3 X N3 T hI hR3 (.tail _ (.tail _ (.tail _ (.tail _ (.tail _ (.tail _ (g1))))))) (.tail _ (.tail _ (.tail _ (.tail _ (.tail _ (.tail _ (g2))))))) (.tail _ (.tail _ (.tail _ (.tail _ (.tail _ (.tail _ (g3))))))) (.tail _ (.tail _ (.tail _ (.tail _ (.tail _ (.tail _ (g4))))))) (.tail _ (.tail _ (.tail _ (.tail _ (.tail _ (.tail _ (e3))))))) (by decide) (by decide) rfl rfl ?_ (if_pos rfl) hd2 hlo q3 (Nat.le_of_ble_eq_true rfl) hc3 hl3 ?_
  · rw [if_neg (by decide)]; rw [if_neg (by decide)]; rw [if_neg (by decide)]; rw [if_neg (by decide)]; exact hm
  intro y3 ro4 z3 tz3 d3 i3 v3 s3 G3 M3
  have q4 : Obj.IsDictOf (intKind Challenge.rw_ok0055_01.row.prog w) ro4 [(97, .ref y0.s), (98, .ref y1.s), (99, .ref y2.s), (100, .ref y3.s)] := d3
  have hR4 : ∀ p ∈ (y3.s, instObj 86 y3.d) :: (y3.d, y3.obj w r3) :: (y2.s, instObj 86 y2.d) :: (y2.d, y2.obj w r2) :: (y1.s, instObj 86 y1.d) :: (y1.d, y1.obj w r1) :: (y0.s, instObj 86 y0.d) :: (y0.d, y0.obj w r0) :: R, p.1 ≠ rw := List.forall_mem_cons.mpr ⟨Nat.ne_of_gt (Nat.lt_trans v3 s3), List.forall_mem_cons.mpr ⟨Nat.ne_of_gt v3, hR3⟩⟩
  have hJ4 : ∀ p ∈ (y3.s, instObj 86 y3.d) :: (y3.d, y3.obj w r3) :: (y2.s, instObj 86 y2.d) :: (y2.d, y2.obj w r2) :: (y1.s, instObj 86 y1.d) :: (y1.d, y1.obj w r1) :: (y0.s, instObj 86 y0.d) :: (y0.d, y0.obj w r0) :: R, p.1 ≠ I := List.forall_mem_cons.mpr ⟨Nat.ne_of_gt (Nat.lt_trans i3 s3), List.forall_mem_cons.mpr ⟨Nat.ne_of_gt i3, hJ3⟩⟩
  refine UnrEnd.intro G3 M3 ((rw, ro4) :: (y3.s, instObj 86 y3.d) :: (y3.d, y3.obj w r3) :: (y2.s, instObj 86 y2.d) :: (y2.d, y2.obj w r2) :: (y1.s, instObj 86 y1.d) :: (y1.d, y1.obj w r1) :: (y0.s, instObj 86 y0.d) :: (y0.d, y0.obj w r0) :: R) (List.forall_mem_cons.mpr ⟨.tail _ (.tail _ (.head _)), List.forall_mem_cons.mpr ⟨.tail _ (.tail _ (.tail _ (.head _))), List.forall_mem_cons.mpr ⟨.head _, List.forall_mem_cons.mpr ⟨.tail _ (.head _), fun p hp => .tail _ (.tail _ (.tail _ (.tail _ (hp))))⟩⟩⟩⟩) (List.forall_mem_cons.mpr ⟨Nat.ne_of_lt hI, hJ4⟩) ?_
  refine RangeRest.succ fun t4 h4 tk4 F4 N4 => ?_
  refine @turn2 w mean mg mb fa L tb td rw sl cd base h₀ _ o2 ro4 e u1 u2 [(97, .ref y0.s), (98, .ref y1.s), (99, .ref y2.s), (100, .ref y3.s)] [.ref r0.a, .ref r1.a, .ref r2.a, .ref r3.a, .ref r4.a] _ t4 r4 I _ _ _ _ B F4 X N4 T hI hR4 (.tail _ (.tail _ (.tail _ (.tail _ (.tail _ (.tail _ (.tail _ (.tail _ (g1))))))))) (.tail _ (.tail _ (.tail _ (.tail _ (.tail _ (.tail _ (.tail _ (.tail _ (g2))))))))) (.tail _ (.tail _ (.tail _ (.tail _ (.tail _ (.tail _ (.tail _ (.tail _ (g3))))))))) (.tail _ (.tail _ (.tail _ (.tail _ (.tail _ (.tail _ (.tail _ (.tail _ (g4))))))))) (.tail _ (.tail _ (.tail _ (.tail _ (.tail _ (.tail _ (.tail _ (.tail _ (e4))))))))) (by decide) (by decide) rfl rfl ?_ (if_pos rfl) hd2 hlo q4 (Nat.le_of_ble_eq_true rfl) hc4 hl4 ?_
  · rw [if_neg (by decide)]; rw [if_neg (by decide)]; rw [if_neg (by decide)]; rw [if_neg (by decide)]; rw [if_neg (by decide)]; exact hm
  intro y4 ro5 z4 tz4 d4 i4 v4 s4 G4 M4
  have q5 : Obj.IsDictOf (intKind Challenge.rw_ok0055_01.row.prog w) ro5 [(97, .ref y0.s), (98, .ref y1.s), (99, .ref y2.s), (100, .ref y3.s), (101, .ref y4.s)] := d4
  have hR5 : ∀ p ∈ (y4.s, instObj 86 y4.d) :: (y4.d, y4.obj w r4) :: (y3.s, instObj 86 y3.d) :: (y3.d, y3.obj w r3) :: (y2.s, instObj 86 y2.d) :: (y2.d, y2.obj w r2) :: (y1.s, instObj 86 y1.d) :: (y1.d, y1.obj w r1) :: (y0.s, instObj 86 y0.d) :: (y0.d, y0.obj w r0) :: R, p.1 ≠ rw := List.forall_mem_cons.mpr ⟨Nat.ne_of_gt (Nat.lt_trans v4 s4), List.forall_mem_cons.mpr ⟨Nat.ne_of_gt v4, hR4⟩⟩
  have hJ5 : ∀ p ∈ (y4.s, instObj 86 y4.d) :: (y4.d, y4.obj w r4) :: (y3.s, instObj 86 y3.d) :: (y3.d, y3.obj w r3) :: (y2.s, instObj 86 y2.d) :: (y2.d, y2.obj w r2) :: (y1.s, instObj 86 y1.d) :: (y1.d, y1.obj w r1) :: (y0.s, instObj 86 y0.d) :: (y0.d, y0.obj w r0) :: R, p.1 ≠ I := List.forall_mem_cons.mpr ⟨Nat.ne_of_gt (Nat.lt_trans i4 s4), List.forall_mem_cons.mpr ⟨Nat.ne_of_gt i4, hJ4⟩⟩
  refine UnrEnd.intro G4 M4 ((rw, ro5) :: (y4.s, instObj 86 y4.d) :: (y4.d, y4.obj w r4) :: (y3.s, instObj 86 y3.d) :: (y3.d, y3.obj w r3) :: (y2.s, instObj 86 y2.d) :: (y2.d, y2.obj w r2) :: (y1.s, instObj 86 y1.d) :: (y1.d, y1.obj w r1) :: (y0.s, instObj 86 y0.d) :: (y0.d, y0.obj w r0) :: R) (List.forall_mem_cons.mpr ⟨.tail _ (.tail _ (.head _)), List.forall_mem_cons.mpr ⟨.tail _ (.tail _ (.tail _ (.head _))), List.forall_mem_cons.mpr ⟨.head _, List.forall_mem_cons.mpr ⟨.tail _ (.head _), fun p hp => .tail _ (.tail _ (.tail _ (.tail _ (hp))))⟩⟩⟩⟩) (List.forall_mem_cons.mpr ⟨Nat.ne_of_lt hI, hJ5⟩) ?_
  refine RangeRest.zero fun h tk F N => ?_
  exact hQ y0 y1 y2 y3 y4 ro5 _ h tk q5 ⟨v0, s0, v1, s1, v2, s2, v3, s3, v4, s4⟩ (by rw [if_neg (by decide), if_neg (by decide), if_neg (by decide), if_neg (by decide), if_neg (by decide)]; exact hm) F N
set_option maxRecDepth 100000 in
set_option maxHeartbeats 8000000 in
theorem stmt2 (w : World) (mean : ExcName → Option Value) (mg mb : Str → Option Value) (fa L tb td rw sl : Addr) (cd : Value) (base h₀ : Heap) (m : Str → Option Value) (o2 ro : Obj) (e : Nat) (u1 u2 : Tok) (r0 r1 r2 r3 r4 : SgE) (R : List (Addr × Obj)) (s : Shared) (Q : Flow → Shared → Prop)
    (B : Below callerA base [] h₀) (F : Fr h₀ L s.heap m) (X : (K0 w.params).In h₀)
    (N : News h₀ L s.heap ((rw, ro) :: (tb, instObj 167 td) :: (td, tabD w rw u1 u2) :: (sl, listOf #[.ref r0.a, .ref r1.a, .ref r2.a, .ref r3.a, .ref r4.a] e) :: (L + 1 + 1, o2) ::
      (r0.a, tupOf #[.str (sgn r0.c) r0.t1, .str (txt r0.l) r0.t3] r0.e) :: (r1.a, tupOf #[.str (sgn r1.c) r1.t1, .str (txt r1.l) r1.t3] r1.e) :: (r2.a, tupOf #[.str (sgn r2.c) r2.t1, .str (txt r2.l) r2.t3] r2.e) :: (r3.a, tupOf #[.str (sgn r3.c) r3.t1, .str (txt r3.l) r3.t3] r3.e) :: (r4.a, tupOf #[.str (sgn r4.c) r4.t1, .str (txt r4.l) r4.t3] r4.e) :: R))
    (T : Top view0 (looseW view0 [Str.ofString "ParseState"]) mean mg mb h₀)
    (hm : m (Str.ofString "table") = some (.ref tb)) (hd2 : o2.data = .cell (some (.ref sl))) (hlo : (rw == sysModules) = false) (hro : Obj.IsDictOf (intKind Challenge.rw_ok0055_01.row.prog w) ro []) (hfp : PyProof.V.FlatPairs PyData.int [] [])
    (hc0 : r0.c ∈ kindsL) (hc1 : r1.c ∈ kindsL) (hc2 : r2.c ∈ kindsL) (hc3 : r3.c ∈ kindsL) (hc4 : r4.c ∈ kindsL) (hl0 : r0.l ∈ subs 7) (hl1 : r1.l ∈ subs 7) (hl2 : r2.l ∈ subs 7) (hl3 : r3.l ∈ subs 7) (hl4 : r4.l ∈ subs 7)
    (hrw : AllLt rw ((tb, instObj 167 td) :: (td, tabD w rw u1 u2) :: (sl, listOf #[.ref r0.a, .ref r1.a, .ref r2.a, .ref r3.a, .ref r4.a] e) :: (L + 1 + 1, o2) ::
      (r0.a, tupOf #[.str (sgn r0.c) r0.t1, .str (txt r0.l) r0.t3] r0.e) :: (r1.a, tupOf #[.str (sgn r1.c) r1.t1, .str (txt r1.l) r1.t3] r1.e) :: (r2.a, tupOf #[.str (sgn r2.c) r2.t1, .str (txt r2.l) r2.t3] r2.e) :: (r3.a, tupOf #[.str (sgn r3.c) r3.t1, .str (txt r3.l) r3.t3] r3.e) :: (r4.a, tupOf #[.str (sgn r4.c) r4.t1, .str (txt r4.l) r4.t3] r4.e) :: R))
    (hret : ∀ (y0 y1 y2 y3 y4 : SyE) ro' m' tk' h', Obj.IsDictOf (intKind Challenge.rw_ok0055_01.row.prog w) ro' [(97, .ref y0.s), (98, .ref y1.s), (99, .ref y2.s), (100, .ref y3.s), (101, .ref y4.s)] →
      (rw < y0.d ∧ y0.d < y0.s ∧ rw < y1.d ∧ y1.d < y1.s ∧ rw < y2.d ∧ y2.d < y2.s ∧ rw < y3.d ∧ y3.d < y3.s ∧ rw < y4.d ∧ y4.d < y4.s) → m' (Str.ofString "table") = some (.ref tb) → Fr h₀ L h' m' →
      News h₀ L h' ((y4.s, instObj 86 y4.d) :: (y4.d, y4.obj w r4) :: (y3.s, instObj 86 y3.d) :: (y3.d, y3.obj w r3) :: (y2.s, instObj 86 y2.d) :: (y2.d, y2.obj w r2) :: (y1.s, instObj 86 y1.d) :: (y1.d, y1.obj w r1) :: (y0.s, instObj 86 y0.d) :: (y0.d, y0.obj w r0) ::
        (rw, ro') :: (tb, instObj 167 td) :: (td, tabD w rw u1 u2) :: (sl, listOf #[.ref r0.a, .ref r1.a, .ref r2.a, .ref r3.a, .ref r4.a] e) :: (L + 1 + 1, o2) ::
        (r0.a, tupOf #[.str (sgn r0.c) r0.t1, .str (txt r0.l) r0.t3] r0.e) :: (r1.a, tupOf #[.str (sgn r1.c) r1.t1, .str (txt r1.l) r1.t3] r1.e) :: (r2.a, tupOf #[.str (sgn r2.c) r2.t1, .str (txt r2.l) r2.t3] r2.e) :: (r3.a, tupOf #[.str (sgn r3.c) r3.t1, .str (txt r3.l) r3.t3] r3.e) :: (r4.a, tupOf #[.str (sgn r4.c) r4.t1, .str (txt r4.l) r4.t3] r4.e) :: R) →
      Q .next { s with heap := h', toks := tk' }) :
    wpAny (model Challenge.rw_ok0055_01.row.prog w) (callerA.deeper (envLaw L fa cd)) (exec (lawBody.getD 2 (.Pass ⟨0, 0, 0, 0⟩)) (envLaw L fa cd)) Q (fun _ _ => False) s := by
  w_on
  revert X
  k_fill
  intro X
  unfold envLaw
  obtain ⟨sc, hsc⟩ : ∃ sc, sc = lawScope := ⟨_, rfl⟩
  rw [← hsc]
  conv at hsc => rhs; whnf
  subst hsc
  conv => arg 3; arg 1; whnf
  have hrm := ktn_ltOf hrw
  w_strict (
    refine @For_rng _ _ _ _ h₀ L fa cd _ _ _ m _ _ _ _ _ ?F ?hx ?hp ?h ?hs
    case F => exact F
    case hx => exact rfl
    case hp => exact rfl
    case hs => intro _; rfl
    (iterate 40 (first | (with_reducible show wpAny _ _ (pyIter _) _ _ _) | (k_unfold; (try dsimp only)) | (walk1; (try dsimp only)) | (dsimp only; walk1)))
    rename News h₀ L _ (_ :: _) => N9
    rename IsRange _ _ _ _ _ _ _ _ => r9
    refine iter_rangeUnr (n := 5) (by rfl) r9 (by first | decide | rfl) (by first | rfl | decide) (by k_asm) N9 ?_
    intro I hI
    refine turns2 w mean mg mb fa L tb td rw sl cd base h₀ m o2 ro e u1 u2 r0 r1 r2 r3 r4 I _ _ Q B X T (hI _ (.head _)) (fun p hp => Nat.ne_of_lt (hrm p hp)) (fun p hp => Nat.ne_of_lt (hI p (.tail _ hp))) (.head _) (.tail _ (.head _)) (.tail _ (.tail _ (.head _))) (.tail _ (.tail _ (.tail _ (.head _)))) hm hd2 hlo hro (.tail _ (.tail _ (.tail _ (.tail _ (.head _))))) hc0 hl0 (.tail _ (.tail _ (.tail _ (.tail _ (.tail _ (.head _)))))) hc1 hl1 (.tail _ (.tail _ (.tail _ (.tail _ (.tail _ (.tail _ (.head _))))))) hc2 hl2 (.tail _ (.tail _ (.tail _ (.tail _ (.tail _ (.tail _ (.tail _ (.head _)))))))) hc3 hl3 (.tail _ (.tail _ (.tail _ (.tail _ (.tail _ (.tail _ (.tail _ (.tail _ (.head _))))))))) hc4 hl4 ?_
    intro y0 y1 y2 y3 y4 ro' m' h' tk' k1 k2 k3 F' N'
    exact hret y0 y1 y2 y3 y4 ro' m' tk' h' k1 k2 k3 F' (news_sub N' (List.forall_mem_cons.mpr ⟨.tail _ (.head _), List.forall_mem_cons.mpr ⟨.tail _ (.tail _ (.head _)), List.forall_mem_cons.mpr ⟨.tail _ (.tail _ (.tail _ (.head _))), List.forall_mem_cons.mpr ⟨.tail _ (.tail _ (.tail _ (.tail _ (.head _)))), List.forall_mem_cons.mpr ⟨.tail _ (.tail _ (.tail _ (.tail _ (.tail _ (.head _))))), List.forall_mem_cons.mpr ⟨.tail _ (.tail _ (.tail _ (.tail _ (.tail _ (.tail _ (.head _)))))), List.forall_mem_cons.mpr ⟨.tail _ (.tail _ (.tail _ (.tail _ (.tail _ (.tail _ (.tail _ (.head _))))))), List.forall_mem_cons.mpr ⟨.tail _ (.tail _ (.tail _ (.tail _ (.tail _ (.tail _ (.tail _ (.tail _ (.head _)))))))), List.forall_mem_cons.mpr ⟨.tail _ (.tail _ (.tail _ (.tail _ (.tail _ (.tail _ (.tail _ (.tail _ (.tail _ (.head _))))))))), List.forall_mem_cons.mpr ⟨.tail _ (.tail _ (.tail _ (.tail _ (.tail _ (.tail _ (.tail _ (.tail _ (.tail _ (.tail _ (.head _)))))))))), List.forall_mem_cons.mpr ⟨.head _, fun p hp => .tail _ (.tail _ (.tail _ (.tail _ (.tail _ (.tail _ (.tail _ (.tail _ (.tail _ (.tail _ (.tail _ (hp)))))))))))⟩⟩⟩⟩⟩⟩⟩⟩⟩⟩⟩)))
end
end
section
-- PN
local macro_rules | `(tactic| walk_at "call ref") => `(tactic| (k_here; (with_reducible show wpAny _ _ (call (Value.ref 278) _) _ _ _); k_dflt (refine' Ctr.use (items_ok ?h1 ?h2 ?hv0 ?hv1 ?hv2 ?hv3 ?hv4 ?hv5 ?hv6 ?hv7 ?hv8 ?hv9 ?hv10 ?hv11) ?B ?F ?X ?N ?T ?hk ?hd ?hu ?_; (case B => k_asm); (case F => k_asm); (case X => k_asm); (case N => k_asm); (case T => k_asm); (case h1 => k_mem); (case h2 => k_mem); (case hv0 => k_handed); (case hv1 => k_handed); (case hv2 => k_handed); (case hv3 => k_handed); (case hv4 => k_handed); (case hv5 => k_handed); (case hv6 => k_handed); (case hv7 => k_handed); (case hv8 => k_handed); (case hv9 => k_handed); (case hv10 => k_handed); (case hv11 => k_handed); (case hk => first | exact rfl | assumption); (case hd => ktr_room); (case hu => ktr_units); k_whole; intro r9 n9 h' tk' F' N' p9; (obtain ⟨x9, p9⟩ := p9); (obtain ⟨p8, p7, p6⟩ := p9); subst p8; subst p7; (try k_lt p6); (try dsimp only); (try k_sweep); (try k_fold))))
noncomputable def rightDef : Stmt := Challenge.pw_ok0055_01.main.body.dropLast.getLastD (.Pass ⟨0, 0, 0, 0⟩)
noncomputable def rightScope : Scope := (stmtScope rightDef).getD { kind := .function, names := [], isGenerator := false, isCoroutine := false, more := [] }
noncomputable def andTail : Stmt → PySem.Expr
  | .Return (some (.BoolOp _ [_, e] _)) _ => e
  | _ => .Constant .none 0 ⟨0, 0, 0, 0⟩
noncomputable def rightTail : PySem.Expr := andTail ((stmtBody rightDef).getLastD (.Pass ⟨0, 0, 0, 0⟩))
theorem atom_emp (t : Tok) : Atom (.str (Str.ofString "") t) (.str (Str.ofString "")) := ⟨fun _ => .str _ t, by decide +kernel, by decide +kernel, by decide +kernel, by decide +kernel, by decide +kernel, by decide +kernel⟩
theorem emp_dt {h₀ : Heap} {news : List (Addr × Obj)} {a : Addr} {o : Obj} (h1 : h₀.get? a = some o) (h2 : o.cls = .type "tuple") (h3 : o.data = .seq #[] 0) : Dt h₀ news (.ref a) (.tuple []) 1 :=
  ⟨ReadsVia.old (.tuple h1 h2 h3 .nil), by decide +kernel, by decide +kernel, by decide +kernel, by decide +kernel, by decide +kernel, by decide +kernel⟩
set_option maxRecDepth 100000 in
set_option maxHeartbeats 3000000 in
theorem tail_ok {w : World} {mean : ExcName → Option Value} {mg mb : Str → Option Value} {dp un : Nat} {cn : Str} {cs : Scope} {L0 a : Addr} {ccd : Value} {cl : List (Str × Addr)} {outer : List Env} {base h₀ : Heap} {L fa : Addr} {cd : Value} {m : Str → Option Value} {s : Shared} {Q E : Value → Shared → Prop} {news : List (Addr × Obj)}
    (B : Below (ktrTop dp un (some []) cn cs L0 a ccd cl outer) base (envX cn cs L0 a ccd cl :: outer) h₀) (F : Fr h₀ L s.heap m) (X : (K0 w.params).In h₀) (N : News h₀ L s.heap news)
    (T : Top view0 (looseW view0 [Str.ofString "ParseState"]) mean mg mb h₀) (hd : dp + 20 < recursionLimit) (hu : un + 8 * 20 < cLine)
    (hret : ∀ h' tk', Fr h₀ L h' m → News h₀ L h' news → Q (.bool true) { s with heap := h', toks := tk' }) :
    wpAny (model Challenge.rw_ok0055_01.row.prog w) ((ktrTop dp un (some []) cn cs L0 a ccd cl outer).deeper (envOf (Str.ofString "_law_is_state_right") rightScope L fa cd)) (eval rightTail (envOf (Str.ofString "_law_is_state_right") rightScope L fa cd)) Q E s := by
  w_on
  revert X
  k_fill
  intro X
  obtain ⟨sc, hsc⟩ : ∃ sc, sc = rightScope := ⟨_, rfl⟩
  rw [← hsc]
  conv at hsc => rhs; whnf
  subst hsc
  conv => arg 3; arg 1; whnf
  w_strict (
    iterate 5 (first | (k_unfold; (try dsimp only)) | walk1 | (dsimp only; walk1))
    k_dflt (refine' call_cls ?k1 ?k2 ?k3 ?k4 ?k5 ?k6 ?_; (case k1 => k_asm); (case k2 => k_asm); (case k3 => k_asm); (case k4 => k_is); (case k5 => k_is); (case k6 => k_is); k_whole; intro x' d' h' F' N' l1 l2; (try k_lt l1); (try k_lt2 l2); (try k_sweep))
    k_dflt (refine' code_def (binds := [(Str.ofString "self", .ref _), (Str.ofString "opens", .ref 242), (Str.ofString "below", .int 0 _), (Str.ofString "least", .int 0 _), (Str.ofString "whole", .none), (Str.ofString "word", .none), (Str.ofString "string", .none), (Str.ofString "comment", .int 0 _), (Str.ofString "style", .str _ _), (Str.ofString "nests", .bool false), (Str.ofString "start", .none), (Str.ofString "quoted", .bool false), (Str.ofString "half", .str _ _)]) ?k1 ?k2 ?k3 ?k4 ?k5 ?kA ?kF ?kK ?k6 ?k7 ?k8 ?k9 ?kB ?_ ?c2 ?c3 ?c4 ?c5; (case kA => exact rfl); (case kF => exact rfl); (case kK => exact rfl); (case k1 => k_asm); (case k2 => k_asm); (case k3 => k_asm); (case k4 => k_asm); (case k5 => k_asm); (case k6 => k_is); (case k7 => k_is); (case k8 => k_room); (case k9 => refine binds_K (by k_in) rfl (by k_is) rfl rfl ?_; rfl); (case c5 => decide); (case kB => exact locs rfl); (case c2 => exact rfl); (case c3 => exact rfl); (case c4 => exact rfl); k_whole; intro g' L' h' FG' F' N' B' X' T'; (try dsimp only); (try k_lift B'); (try k_fold))
    (have F4 : Fr _ _ _ (fun y => List.lookup y [(Str.ofString "half", .str _ _), (Str.ofString "quoted", .bool false), (Str.ofString "start", .none), (Str.ofString "nests", .bool false), (Str.ofString "style", .str _ _), (Str.ofString "comment", .int 0 _), (Str.ofString "string", .none), (Str.ofString "word", .none), (Str.ofString "whole", .none), (Str.ofString "least", .int 0 _), (Str.ofString "below", .int 0 _), (Str.ofString "opens", .ref 242), (Str.ofString "self", .ref _)]) := F')
    clear F'
    iterate 2 (first | (k_unfold; (try dsimp only)) | walk1 | (dsimp only; walk1))
    iterate 72 (first | (with_reducible show wpAny _ _ (eval (PySem.Expr.Tuple _ _ _) _) _ _ _) | (k_unfold; (try dsimp only)) | walk1 | (dsimp only; walk1) | (leave1; (try dsimp only)))
    iterate 44 (first | (with_reducible show wpAny _ _ (compareOp CmpOp.Eq _ _) _ _ _) | (k_unfold; (try dsimp only)) | (walk1; (try dsimp only)) | (dsimp only; walk1))
    have o242 : ∃ o : Obj, h₀.get? 242 = some o ∧ o.cls = .type "tuple" ∧ o.data = .seq #[] 0 := ⟨_, X 242 _ (by rfl), rfl, rfl⟩
    obtain ⟨o9, oe, oc, od⟩ := o242
    rename News h₀ L _ (_ :: _) => N9
    refine eq_dt (by k_asm) N9 (tup_dt (k := 1) (by k_mem) (.cons (emp_dt oe oc od) (.cons (atom_int _ (by decide) (by decide)).dt (.cons (atom_int _ (by decide) (by decide)).dt (.cons atom_none.dt (.cons atom_none.dt (.cons atom_none.dt (.cons (atom_int _ (by decide) (by decide)).dt (.cons (atom_emp _).dt (.cons (atom_bool _).dt (.cons atom_none.dt (.cons (atom_bool _).dt (.cons (atom_emp _).dt .nil)))))))))))) (by simp)) (tup_dt (k := 1) (by k_mem) (.cons (tup_dt (k := 0) (vs := []) (by k_mem) .nil (by simp)) (.cons (atom_int _ (by decide) (by decide)).dt (.cons (atom_int _ (by decide) (by decide)).dt (.cons atom_none.dt (.cons atom_none.dt (.cons atom_none.dt (.cons (atom_int _ (by decide) (by decide)).dt (.cons (atom_emp _).dt (.cons (atom_bool _).dt (.cons atom_none.dt (.cons (atom_bool _).dt (.cons (atom_emp _).dt .nil)))))))))))) (by simp)) (by decide) (by decide) (by ktr_units) ?_
    k_steps
    exact hret _ _ (by k_asm) (news_sub N9 fun p hp => .tail _ (.tail _ (.tail _ (.tail _ (.tail _ hp))))))
end
section
-- PV
noncomputable def CtrG (w : World) (mean : ExcName → Option Value) (mg mb : Str → Option Value) (lv : Nat) (f : Addr) (vs : List Value) (news : List (Addr × Obj)) (Post : Value → List (Addr × Obj) → Prop) : Prop :=
  ∀ (dp un : Nat) (cn : Str) (cs : Scope) (a : Addr) (ccd : Value) (cl : List (Str × Addr)) (outer : List Env) (A₀ : Around) (base h₀ : Heap) (L : Addr) (m : Str → Option Value) (s : Shared) (Q E : Value → Shared → Prop),
    Below A₀ base outer h₀ → Fr h₀ L s.heap m → (K0 w.params).In h₀ → News h₀ L s.heap news →
    Top view0 (looseW view0 [Str.ofString "ParseState"]) mean mg mb h₀ → cs.kind = .function → dp + lv < recursionLimit → un + 8 * lv < cLine →
    (∀ r news' h' tk', Fr h₀ L h' m → News h₀ L h' news' → Post r news' → Q r { s with heap := h', toks := tk' }) →
    wpAny (model Challenge.rw_ok0055_01.row.prog w) (ktrTop dp un (some []) cn cs L a ccd cl outer) (call (.ref f) vs) Q E s
local macro_rules | `(tactic| k_handed) => `(tactic| with_reducible assumption)
theorem len_tup {prog : Program} {w : World} {A : Around} {E : Value → Shared → Prop} {s : Shared} {t : Addr} {ys : List Value} {Q : Value → Shared → Prop} (ht : IsTup s.heap t ys.toArray) (hf : ys.length < 4)
    (h : ∀ u tk, Q (.int ys.length u) { s with toks := tk }) : wpAny (model prog w) A (call (.builtin "len") [.ref t]) Q E s :=
  PyProof.Rows.len_tuple ht (by rw [List.size_toArray]; omega) (h _ _)
local macro_rules | `(tactic| walk_at "call builtin:len") => `(tactic| (k_here; (with_reducible show wpAny _ _ (call (Value.builtin "len") [Value.ref _]) _ _ _); k_dflt (refine' len_tup (News.isTup ?N ?m) ?f ?_; (case N => k_asm); (case m => k_mem); (case f => assumption)); intro u9 tk9))
theorem handed_lo {k : Int} {v : Value} (h : noneOr k v) : handedIn v = true := by
  rcases h with rfl | ⟨t, rfl⟩ <;> rfl
theorem handed_st {v : Value} (h : stOk v) : handedIn v = true := by
  rcases h with rfl | ⟨t, rfl⟩ | ⟨t, rfl⟩ <;> rfl
local macro_rules | `(tactic| walk_at "call ref") => `(tactic| (k_here; (with_reducible show wpAny _ _ (call (Value.ref 292) _) _ _ _); k_dflt (refine' Ctr.use (stateof_ok ?h1) ?B ?F ?X ?N ?T ?hk ?hd ?hu ?_; (case B => k_asm); (case F => k_asm); (case X => k_asm); (case N => k_asm); (case T => k_asm); (case h1 => k_mem); (case hk => first | exact rfl | assumption); (case hd => ktr_room); (case hu => ktr_units); k_whole; intro r9 n9 h' tk' F' N' p9; (obtain ⟨x9, p9⟩ := p9); (obtain ⟨x9, p9⟩ := p9); (obtain ⟨x9, p9⟩ := p9); (obtain ⟨x9, p9⟩ := p9); (obtain ⟨x9, p9⟩ := p9); (obtain ⟨x9, p9⟩ := p9); (obtain ⟨x9, p9⟩ := p9); (obtain ⟨x9, p9⟩ := p9); (obtain ⟨x9, p9⟩ := p9); (obtain ⟨x9, p9⟩ := p9); (obtain ⟨x9, p9⟩ := p9); (obtain ⟨x9, p9⟩ := p9); (obtain ⟨x9, p9⟩ := p9); (obtain ⟨x9, p9⟩ := p9); (obtain ⟨p8, p7, p6, p5⟩ := p9); subst p8; subst p7; (try k_lt p6); (try k_lt2 p5); (try dsimp only); (try k_sweep); (try k_fold))))
local macro_rules | `(tactic| walk_at "call ref") => `(tactic| (k_here; (with_reducible show wpAny _ _ (call (Value.ref 278) _) _ _ _); k_dflt (refine' Ctr.use (items_ok ?h1 ?h2 ?hv0 ?hv1 ?hv2 ?hv3 ?hv4 ?hv5 ?hv6 ?hv7 ?hv8 ?hv9 ?hv10 ?hv11) ?B ?F ?X ?N ?T ?hk ?hd ?hu ?_; (case B => k_asm); (case F => k_asm); (case X => k_asm); (case N => k_asm); (case T => k_asm); (case h1 => k_mem); (case h2 => k_mem); (case hv0 => k_handed); (case hv1 => k_handed); (case hv2 => k_handed); (case hv3 => k_handed); (case hv4 => k_handed); (case hv5 => k_handed); (case hv6 => k_handed); (case hv7 => k_handed); (case hv8 => k_handed); (case hv9 => k_handed); (case hv10 => k_handed); (case hv11 => k_handed); (case hk => first | exact rfl | assumption); (case hd => ktr_room); (case hu => ktr_units); k_whole; intro r9 n9 h' tk' F' N' p9; (obtain ⟨x9, p9⟩ := p9); (obtain ⟨p8, p7, p6⟩ := p9); subst p8; subst p7; (try k_lt p6); (try dsimp only); (try k_sweep); (try k_fold))))
local macro_rules | `(tactic| walk_at "call ref") => `(tactic| (k_here; (with_reducible show wpAny _ _ (call (Value.ref 257) _) _ _ _); k_dflt (refine' Ctr.useR (depth_ok ?h1 ?h2 ?h3 ?hl ?hb) ?B ?F ?X ?N ?T ?hk ?hd ?hu ?_; (case B => k_asm); (case F => k_asm); (case X => k_asm); (case N => k_asm); (case T => k_asm); (case h1 => k_mem); (case h2 => k_mem); (case h3 => k_mem); (case hl => assumption); (case hb => assumption); (case hk => first | exact rfl | assumption); (case hd => ktr_room); (case hu => ktr_units); k_whole; intro r9 h' tk' F' N' p9; (obtain ⟨t9, p9⟩ := p9); subst p9; (try dsimp only); (try k_sweep); (try k_fold))))
local macro_rules | `(tactic| walk_at "call ref") => `(tactic| (k_here; (with_reducible show wpAny _ _ (call (Value.ref 264) _) _ _ _); k_dflt (refine' Ctr.useR (inner_ok ?h1 ?h2 ?h3 ?hI ?hl) ?B ?F ?X ?N ?T ?hk ?hd ?hu ?_; (case B => k_asm); (case F => k_asm); (case X => k_asm); (case N => k_asm); (case T => k_asm); (case h1 => k_mem); (case h2 => k_mem); (case h3 => k_mem); (case hI => assumption); (case hl => assumption); (case hk => first | exact rfl | assumption); (case hd => ktr_room); (case hu => ktr_units); k_whole; intro r9 h' tk' F' N' p9; (try dsimp only); (try k_sweep); (try k_fold))))
local macro_rules | `(tactic| walk_at "call ref") => `(tactic| (k_here; (with_reducible show wpAny _ _ (call (Value.ref 271) _) _ _ _); k_dflt (refine' Ctr.useR (plain_ok ?h1 ?h2 ?hs) ?B ?F ?X ?N ?T ?hk ?hd ?hu ?_; (case B => k_asm); (case F => k_asm); (case X => k_asm); (case N => k_asm); (case T => k_asm); (case h1 => k_mem); (case h2 => k_mem); (case hs => assumption); (case hk => first | exact rfl | assumption); (case hd => ktr_room); (case hu => ktr_units); k_whole; intro r9 h' tk' F' N' p9; subst p9; (try dsimp only); (try k_sweep); (try k_fold))))
local macro_rules | `(tactic| walk_at "call ref") => `(tactic| (k_here; (with_reducible show wpAny _ _ (call (Value.ref 299) _) _ _ _); k_dflt (refine' Ctr.use (told_ok ?h1 ?h2 ?h3 ?hI ?hl ?hb ?hs ?hv2 ?hv3 ?hv7 ?hv9 ?hv10) ?B ?F ?X ?N ?T ?hk ?hd ?hu ?_; (case B => k_asm); (case F => k_asm); (case X => k_asm); (case N => k_asm); (case T => k_asm); (case h1 => k_mem); (case h2 => k_mem); (case h3 => k_mem); (case hI => assumption); (case hl => assumption); (case hb => assumption); (case hs => assumption); (case hv2 => k_handed); (case hv3 => k_handed); (case hv7 => k_handed); (case hv9 => k_handed); (case hv10 => k_handed); (case hk => first | exact rfl | assumption); (case hd => ktr_room); (case hu => ktr_units); k_whole; intro r9 n9 h' tk' F' N' p9; (obtain ⟨x9, p9⟩ := p9); (obtain ⟨x9, p9⟩ := p9); (obtain ⟨x9, p9⟩ := p9); (obtain ⟨x9, p9⟩ := p9); (obtain ⟨x9, p9⟩ := p9); (obtain ⟨p8, p7, p6, p5, p4, p3⟩ := p9); subst p8; subst p6; subst p5; subst p4; (try k_lt p3); (try dsimp only); (try k_sweep); (try k_fold))))
theorem atom_sb (t : Tok) : Atom (.str (Str.ofString "b") t) (.str (Str.ofString "b")) := ⟨fun _ => .str _ t, by decide +kernel, by decide +kernel, by decide +kernel, by decide +kernel, by decide +kernel, by decide +kernel⟩
theorem atom_se (t : Tok) : Atom (.str (Str.ofString "end") t) (.str (Str.ofString "end")) := ⟨fun _ => .str _ t, by decide +kernel, by decide +kernel, by decide +kernel, by decide +kernel, by decide +kernel, by decide +kernel⟩
section
variable {h₀ : Heap} {news : List (Addr × Obj)} {op a : Addr} {ys : List Value} {is : List Int} {b l dc x : Int} {lo wd sv cv iv : Value} {dlo dwd dsv dcv : PyData} {ne p : Bool} {t1 t2 t3 t4 t5 t6 : Tok} {n e : Nat}
theorem op_dt (h3 : (op, tupOf ys.toArray e) ∈ news) (hI : IntsAre ys is) (hl : ys.length < 4) (hbd : ∀ x ∈ is, 0 ≤ x ∧ x ≤ 40) : Dt h₀ news (.ref op) (.tuple (is.map .int)) 1 :=
  tup_dt h3 (ints_dt hI hbd) (by omega)
theorem st12_dt (hm : (a, tupOf #[.ref op, .int b t1, .int (0 - l) t2, lo, wd, sv, .int dc t3, .str (Str.ofString "b") t4, .bool ne, .int 4 t5, .bool (dc == 0), .str (Str.ofString "end") t6] n) ∈ news) (h3 : (op, tupOf ys.toArray e) ∈ news) (hI : IntsAre ys is) (hl : ys.length < 4) (hbd : ∀ x ∈ is, 0 ≤ x ∧ x ≤ 40)
    (hb : 0 ≤ b ∧ b < 3) (hl3 : 0 ≤ l ∧ l < 3) (hdc : dc = 0 ∨ dc = -1 ∨ dc = 1 ∨ dc = 2) (alo : Atom lo dlo) (awd : Atom wd dwd) (asv : Atom sv dsv) :
    Dt h₀ news (.ref a) (.tuple [.tuple (is.map .int), .int b, .int (0 - l), dlo, dwd, dsv, .int dc, .str (Str.ofString "b"), .bool ne, .int 4, .bool (dc == 0), .str (Str.ofString "end")]) 2 :=
  tup_dt hm (.cons (op_dt h3 hI hl hbd) (.cons (atom_int _ (by omega) (by omega)).dt (.cons (atom_int _ (by omega) (by omega)).dt (.cons alo.dt (.cons awd.dt (.cons asv.dt (.cons (atom_int _ (by omega) (by omega)).dt (.cons (atom_sb _).dt (.cons (atom_bool _).dt (.cons (atom_int _ (by omega) (by omega)).dt (.cons (atom_bool _).dt (.cons (atom_se _).dt .nil)))))))))))) (by simp)
theorem l3_dt (hm : (a, listOf #[.int x t1, iv, .bool p] n) ∈ news) (hx : -20 ≤ x ∧ x ≤ 40) (hv : lastV is iv) (hbd : ∀ x ∈ is, 0 ≤ x ∧ x ≤ 40) : Dt h₀ news (.ref a) (.list [.int x, lastD is, .bool p]) 1 :=
  list_dt hm (.cons (atom_int _ hx.1 hx.2).dt (.cons (atom_last hbd hv).dt (.cons (atom_bool _).dt .nil))) (by simp)
theorem l10_dt (hm : (a, listOf #[.int x t1, iv, lo, sv, cv, .bool p, .int (0 - l) t2, .str (Str.ofString "b") t4, .int 4 t5, .ref op] n) ∈ news) (h3 : (op, tupOf ys.toArray e) ∈ news) (hI : IntsAre ys is) (hl : ys.length < 4) (hbd : ∀ x ∈ is, 0 ≤ x ∧ x ≤ 40)
    (hx : -20 ≤ x ∧ x ≤ 40) (hl3 : 0 ≤ l ∧ l < 3) (hv : lastV is iv) (alo : Atom lo dlo) (asv : Atom sv dsv) (acv : Atom cv dcv) :
    Dt h₀ news (.ref a) (.list [.int x, lastD is, dlo, dsv, dcv, .bool p, .int (0 - l), .str (Str.ofString "b"), .int 4, .tuple (is.map .int)]) 2 :=
  list_dt hm (.cons (atom_int _ hx.1 hx.2).dt (.cons (atom_last hbd hv).dt (.cons alo.dt (.cons asv.dt (.cons acv.dt (.cons (atom_bool _).dt (.cons (atom_int _ (by omega) (by omega)).dt (.cons (atom_sb _).dt (.cons (atom_int _ (by omega) (by omega)).dt (.cons (op_dt h3 hI hl hbd) .nil)))))))))) (by simp)
end
local macro_rules | `(tactic| walk_at "compareOp NotEq ref ref") => `(tactic| (k_here; first
  | k_dflt (refine ne_dt (by k_asm) (by k_asm) (st12_dt (by k_mem) (by k_mem) (by assumption) (by assumption) (by assumption) (by assumption) (by assumption) (by assumption) (by assumption) (by assumption) (by assumption)) (st12_dt (by k_mem) (by k_mem) (by assumption) (by assumption) (by assumption) (by assumption) (by assumption) (by assumption) (by assumption) (by assumption) (by assumption)) (by decide) (by decide) (by ktr_units) ?_)
  | k_dflt (refine ne_dt (by k_asm) (by k_asm) (l3_dt (by k_mem) (by omega) (by assumption) (by assumption)) (l3_dt (by k_mem) (by omega) (by assumption) (by assumption)) (by decide) (by decide) (by ktr_units) ?_)))
local macro_rules | `(tactic| walk_at "call builtin:repr") => `(tactic| (k_here; (with_reducible show wpAny _ _ (call (Value.builtin "repr") [Value.ref _]) _ _ _); k_dflt (refine repr_dt (by k_asm) (by k_asm) (l10_dt (by k_mem) (by k_mem) (by assumption) (by assumption) (by assumption) (by omega) (by assumption) (by assumption) (by assumption) (by assumption) (by assumption)) rfl (by decide) (by exact rfl) (by ktr_units) ?_); intro h9 u9 tk9 F9 N9))
theorem eq_strs {prog : Program} {w : World} {A : Around} {E : Value → Shared → Prop} {s : Shared} {x : Str} {t u : Tok} {Q : Value → Shared → Prop} (h : Q (.bool true) s) : wpAny (model prog w) A (compareOp .Eq (.str x t) (.str x u)) Q E s := by
  refine eq_str ?_
  rw [beq_self_eq_true]; exact h
theorem merge_at {prog : Program} {w : World} {A : Around} {E : Value → Shared → Prop} {s : Shared} {h₀ : Heap} {L : Addr} {m : Str → Option Value} {news : List (Addr × Obj)} {t : Sem Value} {Q : Value → Shared → Prop} (P : Value → Prop) (_F : Fr h₀ L s.heap m) (_N : News h₀ L s.heap news)
    (h : wpAny (model prog w) A t (fun v s' => P v ∧ ∃ h' tk, s' = { s with heap := h', toks := tk } ∧ Fr h₀ L h' m ∧ News h₀ L h' news) E s) (hQ : ∀ v h' tk, P v → Fr h₀ L h' m → News h₀ L h' news → Q v { s with heap := h', toks := tk }) : wpAny (model prog w) A t Q E s :=
  wpAny_mono h (fun v s' hp => by obtain ⟨p, h', tk, rfl, F', N'⟩ := hp; exact hQ v h' tk p F' N') fun _ _ e => e
theorem cmpos2 {dc : Int} {ne : Bool} {t : Tok} (h : 0 < dc) (h3 : ne = true) : cmF dc ne t = .int dc t := cmpos (by omega) (by omega) h3
theorem cmneg2 {dc : Int} {ne : Bool} {t : Tok} (h : dc ≠ 0) (h2 : ¬ 0 < dc) : cmF dc ne t = .bool true := cmneg (by omega)
set_option maxRecDepth 100000 in
set_option maxHeartbeats 8000000 in
theorem right_ok {w : World} {mean : ExcName → Option Value} {mg mb : Str → Option Value} {ti op : Addr} {ys : List Value} {is : List Int} {b l dc : Int} {lo wd sv : Value} {ne : Bool} {t1 t2 t3 t4 t5 t6 : Tok} {news : List (Addr × Obj)}
    (h1 : (ti, stT op b l dc lo wd sv ne t1 t2 t3 t4 t5 t6) ∈ news) (h3 : (op, tupOf ys.toArray 0) ∈ news) (hI : IntsAre ys is) (hl : ys.length < 4) (hb : 0 ≤ b ∧ b < 3) (hl3 : 0 ≤ l ∧ l < 3) (hdc : dc = 0 ∨ dc = -1 ∨ dc = 1 ∨ dc = 2) (hlo : noneOr 5 lo) (hwd : noneOr 6 wd) (hs : stOk sv) (hbd : ∀ x ∈ is, 0 ≤ x ∧ x ≤ 40) :
    CtrG w mean mg mb 20 387 [.ref ti] news (fun r news' => r = .bool true ∧ news' = news) := by
  w_on
  unfold CtrG
  k_fill
  intro dp un cn cs a ccd cl outer A₀ base h₀ L m s Q E B F X N T hk hd hu hret
  have hh1 := handed_lo hlo
  have hh2 := handed_lo hwd
  have hh3 := handed_st hs
  unfold stT at h1
  obtain ⟨dlo, alo⟩ := atom_lo5 hlo
  obtain ⟨dwd, awd⟩ := atom_lo6 hwd
  obtain ⟨dsv, asv⟩ := atom_st hs
  obtain ⟨dsF, asF⟩ := atom_strF hs
  obtain ⟨dcm, acm⟩ := atom_cmF (ne := ne) (t := t3) hdc
  refine wpAny_call ?_
  k_dflt ktr_enter
  w_strict (
    iterate 106 (first | (k_unfold; (try dsimp only)) | walk1 | (dsimp only; walk1) | (leave1; (try dsimp only)))
    refine merge_at (lastV is) (by k_asm) (by k_asm) ?_ ?_
    · rcases four hI hl with ⟨rfl, rfl⟩ | ⟨_, _, rfl, rfl⟩ | ⟨_, _, _, _, rfl, rfl⟩ | ⟨_, _, _, _, _, _, rfl, rfl⟩
      all_goals (
        k_steps
        all_goals (first | exact rfl | exact ⟨_, rfl⟩ | k_asm | exact news_sub (by k_asm) fun p hp => .tail _ hp))
    intro v9 h9 tk9 p9 F9 N9
    iterate 43 (first | (k_unfold; (try dsimp only)) | walk1 | (dsimp only; walk1) | (leave1; (try dsimp only)))
    refine merge_at (· = .bool (isN sv && dc == 0)) (by k_asm) (by k_asm) ?_ ?_
    · rcases hs with rfl | ⟨_, rfl⟩ | ⟨_, rfl⟩
      all_goals (
        k_steps
        all_goals (first | exact rfl | k_asm | exact news_sub (by k_asm) fun p hp => .tail _ hp))
    intro v10 h10 tk10 p10 F10 N10
    subst p10
    iterate 30 (first | (with_reducible show wpAny _ _ (eval (PySem.Expr.IfExp _ _ _ _) _) _ _ _) | (k_unfold; (try dsimp only)) | walk1 | (dsimp only; walk1) | (leave1; (try dsimp only)))
    refine merge_at (· = strF sv) (by k_asm) (by k_asm) ?_ ?_
    · rcases hs with rfl | ⟨_, rfl⟩ | ⟨_, rfl⟩
      all_goals (
        k_steps
        all_goals (first | exact rfl | k_asm | exact news_sub (by k_asm) fun p hp => .tail _ hp))
    intro v10 h10 tk10 p10 F10 N10
    subst p10
    iterate 30 (first | (with_reducible show wpAny _ _ (eval (PySem.Expr.IfExp _ _ _ _) _) _ _ _) | (k_unfold; (try dsimp only)) | walk1 | (dsimp only; walk1) | (leave1; (try dsimp only)))
    refine merge_at (· = cmF dc ne t3) (by k_asm) (by k_asm) ?_ ?_
    · k_steps
      all_goals (first | k_asm | exact (cm0 (by with_reducible assumption)).symm | exact (cmneg2 (by with_reducible assumption) (by with_reducible assumption)).symm | exact (cmpos2 (by with_reducible assumption) (by with_reducible assumption)).symm | exact (cmpos (by with_reducible assumption) (by with_reducible assumption) (by with_reducible assumption)).symm | exact (cmno (by with_reducible assumption) (by with_reducible assumption)).symm)
    intro v10 h10 tk10 p10 F10 N10
    subst p10
    iterate 70 (first | (with_reducible show wpAny _ _ (compareOp CmpOp.Eq (Value.str _ _) _) _ _ _) | (k_unfold; (try dsimp only)) | walk1 | (dsimp only; walk1) | (leave1; (try dsimp only)))
    refine eq_strs ?_
    walk1
    walk1
    walk1
    k_dflt (refine tail_ok (by k_asm) (by k_asm) (by k_asm) (by k_asm) (by k_asm) (by ktr_room) (by ktr_units) ?_)
    intro h12 tk12 F12 N12
    dsimp only
    k_steps
    rename News h₀ L _ (_ :: _) => N9
    exact hret _ _ _ _ (by k_asm) (news_sub N9 (fun p hp => by repeat' (first | exact hp | apply List.Mem.tail))) ⟨rfl, rfl⟩)
end
section
-- LawR
local macro_rules | `(tactic| ktr_rel) => `(tactic| (dsimp only; first | assumption | (refine (if_neg (by decide)).trans ?_; ktr_rel) | (refine (if_pos rfl).trans ?_; exact rfl)))
local macro_rules | `(tactic| walk_at "eval Name") => `(tactic| (k_here; k_dflt (refine' nameX_L ?k1 ?k2 ?_; (case k1 => k_asm); (case k2 => first | assumption | ktr_rel); k_whole)))
theorem CtrG.use {w : World} {mean : ExcName → Option Value} {mg mb : Str → Option Value} {lv : Nat} {f : Addr} {vs : List Value} {news : List (Addr × Obj)} {Post : Value → List (Addr × Obj) → Prop}
    {dp un : Nat} {cn : Str} {cs : Scope} {a : Addr} {ccd : Value} {cl : List (Str × Addr)} {outer : List Env} {A₀ : Around} {base h₀ : Heap} {L : Addr} {m : Str → Option Value} {s : Shared} {Q E : Value → Shared → Prop}
    (C : CtrG w mean mg mb lv f vs news Post) (B : Below A₀ base outer h₀) (F : Fr h₀ L s.heap m) (X : (K0 w.params).In h₀) (N : News h₀ L s.heap news)
    (T : Top view0 (looseW view0 [Str.ofString "ParseState"]) mean mg mb h₀) (hk : cs.kind = .function) (hd : dp + lv < recursionLimit) (hu : un + 8 * lv < cLine)
    (hret : ∀ r news' h' tk', Fr h₀ L h' m → News h₀ L h' news' → Post r news' → Q r { s with heap := h', toks := tk' }) :
    wpAny (model Challenge.rw_ok0055_01.row.prog w) (ktrTop dp un (some []) cn cs L a ccd cl outer) (call (.ref f) vs) Q E s :=
  C dp un cn cs a ccd cl outer A₀ base h₀ L m s Q E B F X N T hk hd hu hret
theorem opens_bd (n : Nat) (hn : n < 4) : ∀ x ∈ (rangeKs 0 n).map (fun k => 1 + 3 * k), 0 ≤ x ∧ x ≤ 40 := by
  have all : ∀ n : Fin 4, ∀ x ∈ (rangeKs 0 n.val).map (fun k => 1 + 3 * k), 0 ≤ x ∧ x ≤ 40 := by decide +kernel
  exact all ⟨n, hn⟩
set_option maxRecDepth 100000 in
set_option maxHeartbeats 8000000 in
theorem stmt7 (w : World) (mean : ExcName → Option Value) (mg mb : Str → Option Value) (fa L dk xs : Addr) (cd : Value) (ys : List Value) (ms : List Int) (base h₀ : Heap) (m : Str → Option Value) (o1 : Obj) (c : Int) (t : Tok) (news : List (Addr × Obj)) (s : Shared) (Q : Flow → Shared → Prop) (E : Value → Shared → Prop)
    (B : Below callerA base [] h₀) (F : Fr h₀ L s.heap m) (X : (K0 w.params).In h₀) (N : News h₀ L s.heap news) (T : Top view0 (looseW view0 [Str.ofString "ParseState"]) mean mg mb h₀)
    (g1 : (dk, listOf #[.ref xs, .int c t] 0) ∈ news) (g2 : (L + 1, o1) ∈ news) (g3 : (xs, LCg.lst ys) ∈ news)
    (hI : IntsAre ys ms) (hlen : ms.length ≤ 60) (hd1 : o1.data = .cell (some (.ref dk))) (hxd : xs ≠ dk) (hc0 : 0 ≤ c) (hc1 : c < 600)
    (hret : ∀ tk' h', Fr h₀ L h' m → Q (.ret (.bool true)) { s with heap := h', toks := tk' }) :
    wpAny (model Challenge.rw_ok0055_01.row.prog w) (callerA.deeper (envLaw L fa cd)) (exec (lawBody.getD 7 (.Pass ⟨0, 0, 0, 0⟩)) (envLaw L fa cd)) Q E s := by
  w_on
  revert X
  k_fill
  intro X
  unfold envLaw
  obtain ⟨sc, hsc⟩ : ∃ sc, sc = lawScope := ⟨_, rfl⟩
  rw [← hsc]
  conv at hsc => rhs; whnf
  subst hsc
  conv => arg 3; arg 1; whnf
  w_strict (
    iterate 30 (first | (with_reducible show wpAny _ _ (call (Value.ref 380) _) _ _ _) | (k_unfold; (try dsimp only)) | walk1 | (dsimp only; walk1))
    k_dflt (refine Ctr.use (state_ok w mean mg mb dk xs ys ms 0 ys.length c t [] hI hlen hxd (fun _ h => nomatch h) hc0 (by omega)) (by k_asm) (by k_asm) (by k_asm) (pair_news N g1 g3) (by k_asm) (by first | exact rfl | assumption) (by ktr_room) (by ktr_units) ?_)
    rintro r n1 h' tk' F1 N1 ⟨ti, op, ys9, nO, b, l, dp, lo, wd, sv, ne, t1, t2, t3, t4, t5, t6, rfl, rfl, hIo, hnO, hb, hl, hdp, hlo, hwd, hsv⟩
    iterate 30 (first | (with_reducible show wpAny _ _ (call (Value.ref 387) _) _ _ _) | (k_unfold; (try dsimp only)) | walk1 | (dsimp only; walk1))
    k_dflt (refine CtrG.use (right_ok (.head _) (.tail _ (.head _)) hIo (by rw [hIo.length, List.length_map, rangeKs_length]; exact hnO) hb hl hdp hlo hwd hsv (opens_bd nO hnO)) (by k_asm) (by k_asm) (by k_asm) N1 (by k_asm) (by first | exact rfl | assumption) (by ktr_room) (by ktr_units) ?_)
    rintro r9 n9 h9 tk9 F9 N9 ⟨rfl, rfl⟩
    k_steps
    exact hret _ _ (by k_asm))
end
section
-- Body
theorem cells_ne (L : Nat) : L + 1 + 1 ≠ L + 1 ∧ L + 1 + 1 + 1 ≠ L + 1 ∧ L + 1 + 1 + 1 + 1 ≠ L + 1 ∧ L + 1 + 1 + 1 + 1 + 1 ≠ L + 1 ∧ L + 1 + 1 + 1 ≠ L + 1 + 1 ∧ L + 1 + 1 + 1 + 1 ≠ L + 1 + 1 ∧ L + 1 + 1 + 1 + 1 + 1 ≠ L + 1 + 1 := by omega
theorem rows5 {rows : List SgE} (h : rows.length = 5) : ∃ r0 r1 r2 r3 r4, rows = [r4, r3, r2, r1, r0] := by
  match rows, h with
  | [a, b, c, d, e], _ => exact ⟨e, d, c, b, a, rfl⟩

set_option maxRecDepth 100000 in
set_option maxHeartbeats 4000000 in
theorem law_body (w : World) (mean : ExcName → Option Value) (mg mb : Str → Option Value) (fa L scr : Addr) (cd : Value) (vs : List Value) (ns : List Int) (base h₀ : Heap) (m : Str → Option Value) (o1 o2 o3 o4 o5 : Obj) (v1 v2 v3 v4 v5 : Option Value) (s : Shared) (Q : Flow → Shared → Prop)
    (B : Below callerA base [] h₀) (F : Fr h₀ L s.heap m) (X : (K0 w.params).In h₀) (N : News h₀ L s.heap [(L + 1 + 1 + 1 + 1 + 1, o5), (L + 1 + 1 + 1 + 1, o4), (L + 1 + 1 + 1, o3), (L + 1 + 1, o2), (L + 1, o1)]) (T : Top view0 (looseW view0 [Str.ofString "ParseState"]) mean mg mb h₀)
    (hm : m (Str.ofString "script") = some (.ref scr)) (hl : h₀.IsList scr vs.toArray) (hI : IntsAre vs ns) (hn : ns.length ≤ 63) (c1 : o1.data = .cell v1) (c2 : o2.data = .cell v2) (c3 : o3.data = .cell v3) (c4 : o4.data = .cell v4) (c5 : o5.data = .cell v5)
    (hret : ∀ m' tk' h', Fr h₀ L h' m' → Q (.ret (.bool true)) { s with heap := h', toks := tk' }) :
    wpAny (model Challenge.rw_ok0055_01.row.prog w) (callerA.deeper (envLaw L fa cd)) (execs lawBody (envLaw L fa cd)) Q (fun _ _ => False) s := by
  rw [eight (d := .Pass ⟨0, 0, 0, 0⟩) lawBody_len]
  obtain ⟨e21, e31, e41, e51, e32, e42, e52⟩ := cells_ne L
  have N0 : News h₀ L s.heap [(L + 1, o1), (L + 1 + 1, o2), (L + 1 + 1 + 1, o3), (L + 1 + 1 + 1 + 1, o4), (L + 1 + 1 + 1 + 1 + 1, o5)] := news_sub N (List.forall_mem_cons.mpr ⟨.tail _ (.tail _ (.tail _ (.tail _ (.head _)))), (List.forall_mem_cons.mpr ⟨.tail _ (.tail _ (.tail _ (.head _))), (List.forall_mem_cons.mpr ⟨.tail _ (.tail _ (.head _)), (List.forall_mem_cons.mpr ⟨.tail _ (.head _), (List.forall_mem_cons.mpr ⟨.head _, (fun _ h => nomatch h)⟩)⟩)⟩)⟩)⟩)
  clear N
  refine wpAny_execs_cons ?_
  refine @stmt0 w mean mg mb fa L scr cd vs ns base h₀ m o1 v1 [(L + 1 + 1, o2), (L + 1 + 1 + 1, o3), (L + 1 + 1 + 1 + 1, o4), (L + 1 + 1 + 1 + 1 + 1, o5)] s _ _ B F X N0 T hm hl hI hn c1 (List.forall_mem_cons.mpr ⟨e21, List.forall_mem_cons.mpr ⟨e31, List.forall_mem_cons.mpr ⟨e41, List.forall_mem_cons.mpr ⟨e51, fun _ h => nomatch h⟩⟩⟩⟩) ?_
  intro dk xs ys ms p1 t0 tk1 h1 hIy hms dlt x1 xo F1 N1 q1
  clear N0
  have hxd : xs ≠ dk := Nat.ne_of_lt dlt.1
  have dlt1 : @LT.lt Nat _ (L + 1) dk := dlt.2.1
  have dlt2 : @LT.lt Nat _ (L + 1 + 1) dk := dlt.2.2.1
  have dlt3 : @LT.lt Nat _ (L + 1 + 1 + 1) dk := dlt.2.2.2.1
  have dlt4 : @LT.lt Nat _ (L + 1 + 1 + 1 + 1) dk := dlt.2.2.2.2.1
  have dlt5 : @LT.lt Nat _ (L + 1 + 1 + 1 + 1 + 1) dk := dlt.2.2.2.2.2.1
  have x2 : L + 1 + 1 ≠ xs := off1_mem xo _ (.head _)
  have x3 : L + 1 + 1 + 1 ≠ xs := off1_mem xo _ (.tail _ (.head _))
  have x4 : L + 1 + 1 + 1 + 1 ≠ xs := off1_mem xo _ (.tail _ (.tail _ (.head _)))
  have x5 : L + 1 + 1 + 1 + 1 + 1 ≠ xs := off1_mem xo _ (.tail _ (.tail _ (.tail _ (.head _))))
  have N1' : News h₀ L h1 [(L + 1, p1), (L + 1 + 1, o2), (dk, listOf #[.ref xs, .int 0 t0] 0), (xs, LCg.lst ys), (L + 1 + 1 + 1, o3), (L + 1 + 1 + 1 + 1, o4), (L + 1 + 1 + 1 + 1 + 1, o5)] := news_sub N1 (List.forall_mem_cons.mpr ⟨.tail _ (.tail _ (.head _)), (List.forall_mem_cons.mpr ⟨.tail _ (.tail _ (.tail _ (.head _))), (List.forall_mem_cons.mpr ⟨.head _, (List.forall_mem_cons.mpr ⟨.tail _ (.head _), (List.forall_mem_cons.mpr ⟨.tail _ (.tail _ (.tail _ (.tail _ (.head _)))), (List.forall_mem_cons.mpr ⟨.tail _ (.tail _ (.tail _ (.tail _ (.tail _ (.head _))))), (List.forall_mem_cons.mpr ⟨.tail _ (.tail _ (.tail _ (.tail _ (.tail _ (.tail _ (.head _)))))), (fun _ h => nomatch h)⟩)⟩)⟩)⟩)⟩)⟩)⟩)
  clear N1
  refine wpAny_execs_cons ?_
  refine @stmt1 w mean mg mb fa L dk xs cd ys ms base h₀ m p1 o2 t0 v2 [(L + 1 + 1 + 1, o3), (L + 1 + 1 + 1 + 1, o4), (L + 1 + 1 + 1 + 1 + 1, o5)] _ _ _ B F1 X N1' T hIy hms q1 c2 (List.forall_mem_cons.mpr ⟨e32, List.forall_mem_cons.mpr ⟨e42, List.forall_mem_cons.mpr ⟨e52, fun _ h => nomatch h⟩⟩⟩) (List.forall_mem_cons.mpr ⟨Nat.ne_of_lt dlt3, List.forall_mem_cons.mpr ⟨Nat.ne_of_lt dlt4, List.forall_mem_cons.mpr ⟨Nat.ne_of_lt dlt5, fun _ h => nomatch h⟩⟩⟩) hxd (Ne.symm x2) dlt2 ?_
  intro rows t1 k1 sl tb td rw ro u1 u2 p2 tk2 h2 hr5 hrok _ hrlt hk1 slo tdl tbl rwl hlo hro hfp q2 F2 N2
  clear N1'
  obtain ⟨r0, r1, r2, r3, r4, rfl⟩ := rows5 hr5
  obtain ⟨rk4, hrok⟩ := List.forall_mem_cons.mp hrok
  obtain ⟨rk3, hrok⟩ := List.forall_mem_cons.mp hrok
  obtain ⟨rk2, hrok⟩ := List.forall_mem_cons.mp hrok
  obtain ⟨rk1, hrok⟩ := List.forall_mem_cons.mp hrok
  obtain ⟨rk0, hrok⟩ := List.forall_mem_cons.mp hrok
  obtain ⟨rl4, hrlt⟩ := List.forall_mem_cons.mp hrlt
  obtain ⟨rl3, hrlt⟩ := List.forall_mem_cons.mp hrlt
  obtain ⟨rl2, hrlt⟩ := List.forall_mem_cons.mp hrlt
  obtain ⟨rl1, hrlt⟩ := List.forall_mem_cons.mp hrlt
  obtain ⟨rl0, hrlt⟩ := List.forall_mem_cons.mp hrlt
  clear hrok hrlt
  have N2' : News h₀ L h2 [(rw, ro), (tb, instObj 167 td), (td, tabD w rw u1 u2), (sl, listOf #[.ref r0.a, .ref r1.a, .ref r2.a, .ref r3.a, .ref r4.a] 5), (L + 1, p1), (L + 1 + 1, p2), (dk, listOf #[.ref xs, .int k1 t1] 0), (xs, LCg.lst ys), (r4.a, tupOf #[.str (sgn r4.c) r4.t1, .str (txt r4.l) r4.t3] r4.e), (r3.a, tupOf #[.str (sgn r3.c) r3.t1, .str (txt r3.l) r3.t3] r3.e), (r2.a, tupOf #[.str (sgn r2.c) r2.t1, .str (txt r2.l) r2.t3] r2.e), (r1.a, tupOf #[.str (sgn r1.c) r1.t1, .str (txt r1.l) r1.t3] r1.e), (r0.a, tupOf #[.str (sgn r0.c) r0.t1, .str (txt r0.l) r0.t3] r0.e), (L + 1 + 1 + 1, o3), (L + 1 + 1 + 1 + 1, o4), (L + 1 + 1 + 1 + 1 + 1, o5)] := N2
  have N2'' : News h₀ L h2 [(rw, ro), (tb, instObj 167 td), (td, tabD w rw u1 u2), (sl, listOf #[.ref r0.a, .ref r1.a, .ref r2.a, .ref r3.a, .ref r4.a] 5), (L + 1 + 1, p2), (r0.a, tupOf #[.str (sgn r0.c) r0.t1, .str (txt r0.l) r0.t3] r0.e), (r1.a, tupOf #[.str (sgn r1.c) r1.t1, .str (txt r1.l) r1.t3] r1.e), (r2.a, tupOf #[.str (sgn r2.c) r2.t1, .str (txt r2.l) r2.t3] r2.e), (r3.a, tupOf #[.str (sgn r3.c) r3.t1, .str (txt r3.l) r3.t3] r3.e), (r4.a, tupOf #[.str (sgn r4.c) r4.t1, .str (txt r4.l) r4.t3] r4.e), (L + 1, p1), (dk, listOf #[.ref xs, .int k1 t1] 0), (xs, LCg.lst ys), (L + 1 + 1 + 1, o3), (L + 1 + 1 + 1 + 1, o4), (L + 1 + 1 + 1 + 1 + 1, o5)] := news_sub N2' (List.forall_mem_cons.mpr ⟨.head _, (List.forall_mem_cons.mpr ⟨.tail _ (.head _), (List.forall_mem_cons.mpr ⟨.tail _ (.tail _ (.head _)), (List.forall_mem_cons.mpr ⟨.tail _ (.tail _ (.tail _ (.head _))), (List.forall_mem_cons.mpr ⟨.tail _ (.tail _ (.tail _ (.tail _ (.tail _ (.head _))))), (List.forall_mem_cons.mpr ⟨.tail _ (.tail _ (.tail _ (.tail _ (.tail _ (.tail _ (.tail _ (.tail _ (.tail _ (.tail _ (.tail _ (.tail _ (.head _)))))))))))), (List.forall_mem_cons.mpr ⟨.tail _ (.tail _ (.tail _ (.tail _ (.tail _ (.tail _ (.tail _ (.tail _ (.tail _ (.tail _ (.tail _ (.head _))))))))))), (List.forall_mem_cons.mpr ⟨.tail _ (.tail _ (.tail _ (.tail _ (.tail _ (.tail _ (.tail _ (.tail _ (.tail _ (.tail _ (.head _)))))))))), (List.forall_mem_cons.mpr ⟨.tail _ (.tail _ (.tail _ (.tail _ (.tail _ (.tail _ (.tail _ (.tail _ (.tail _ (.head _))))))))), (List.forall_mem_cons.mpr ⟨.tail _ (.tail _ (.tail _ (.tail _ (.tail _ (.tail _ (.tail _ (.tail _ (.head _)))))))), (List.forall_mem_cons.mpr ⟨.tail _ (.tail _ (.tail _ (.tail _ (.head _)))), (List.forall_mem_cons.mpr ⟨.tail _ (.tail _ (.tail _ (.tail _ (.tail _ (.tail _ (.head _)))))), (List.forall_mem_cons.mpr ⟨.tail _ (.tail _ (.tail _ (.tail _ (.tail _ (.tail _ (.tail _ (.head _))))))), (List.forall_mem_cons.mpr ⟨.tail _ (.tail _ (.tail _ (.tail _ (.tail _ (.tail _ (.tail _ (.tail _ (.tail _ (.tail _ (.tail _ (.tail _ (.tail _ (.head _))))))))))))), (List.forall_mem_cons.mpr ⟨.tail _ (.tail _ (.tail _ (.tail _ (.tail _ (.tail _ (.tail _ (.tail _ (.tail _ (.tail _ (.tail _ (.tail _ (.tail _ (.tail _ (.head _)))))))))))))), (List.forall_mem_cons.mpr ⟨.tail _ (.tail _ (.tail _ (.tail _ (.tail _ (.tail _ (.tail _ (.tail _ (.tail _ (.tail _ (.tail _ (.tail _ (.tail _ (.tail _ (.tail _ (.head _))))))))))))))), (fun _ h => nomatch h)⟩)⟩)⟩)⟩)⟩)⟩)⟩)⟩)⟩)⟩)⟩)⟩)⟩)⟩)⟩)⟩)
  clear N2 N2'
  have rwl' : AllLt rw [(tb, instObj 167 td), (td, tabD w rw u1 u2), (sl, listOf #[.ref r0.a, .ref r1.a, .ref r2.a, .ref r3.a, .ref r4.a] 5), (L + 1, p1), (L + 1 + 1, o2), (dk, listOf #[.ref xs, .int k1 t1] 0), (xs, LCg.lst ys), (r4.a, tupOf #[.str (sgn r4.c) r4.t1, .str (txt r4.l) r4.t3] r4.e), (r3.a, tupOf #[.str (sgn r3.c) r3.t1, .str (txt r3.l) r3.t3] r3.e), (r2.a, tupOf #[.str (sgn r2.c) r2.t1, .str (txt r2.l) r2.t3] r2.e), (r1.a, tupOf #[.str (sgn r1.c) r1.t1, .str (txt r1.l) r1.t3] r1.e), (r0.a, tupOf #[.str (sgn r0.c) r0.t1, .str (txt r0.l) r0.t3] r0.e), (L + 1 + 1 + 1, o3), (L + 1 + 1 + 1 + 1, o4), (L + 1 + 1 + 1 + 1 + 1, o5)] := rwl
  have rwm := ktn_ltOf rwl'
  clear rwl
  have hrw : AllLt rw [(tb, instObj 167 td), (td, tabD w rw u1 u2), (sl, listOf #[.ref r0.a, .ref r1.a, .ref r2.a, .ref r3.a, .ref r4.a] 5), (L + 1 + 1, p2), (r0.a, tupOf #[.str (sgn r0.c) r0.t1, .str (txt r0.l) r0.t3] r0.e), (r1.a, tupOf #[.str (sgn r1.c) r1.t1, .str (txt r1.l) r1.t3] r1.e), (r2.a, tupOf #[.str (sgn r2.c) r2.t1, .str (txt r2.l) r2.t3] r2.e), (r3.a, tupOf #[.str (sgn r3.c) r3.t1, .str (txt r3.l) r3.t3] r3.e), (r4.a, tupOf #[.str (sgn r4.c) r4.t1, .str (txt r4.l) r4.t3] r4.e), (L + 1, p1), (dk, listOf #[.ref xs, .int k1 t1] 0), (xs, LCg.lst ys), (L + 1 + 1 + 1, o3), (L + 1 + 1 + 1 + 1, o4), (L + 1 + 1 + 1 + 1 + 1, o5)] := ⟨rwm (tb, instObj 167 td) (.head _), ⟨rwm (td, tabD w rw u1 u2) (.tail _ (.head _)), ⟨rwm (sl, listOf #[.ref r0.a, .ref r1.a, .ref r2.a, .ref r3.a, .ref r4.a] 5) (.tail _ (.tail _ (.head _))), ⟨rwm (L + 1 + 1, o2) (.tail _ (.tail _ (.tail _ (.tail _ (.head _))))), ⟨rwm (r0.a, tupOf #[.str (sgn r0.c) r0.t1, .str (txt r0.l) r0.t3] r0.e) (.tail _ (.tail _ (.tail _ (.tail _ (.tail _ (.tail _ (.tail _ (.tail _ (.tail _ (.tail _ (.tail _ (.head _)))))))))))), ⟨rwm (r1.a, tupOf #[.str (sgn r1.c) r1.t1, .str (txt r1.l) r1.t3] r1.e) (.tail _ (.tail _ (.tail _ (.tail _ (.tail _ (.tail _ (.tail _ (.tail _ (.tail _ (.tail _ (.head _))))))))))), ⟨rwm (r2.a, tupOf #[.str (sgn r2.c) r2.t1, .str (txt r2.l) r2.t3] r2.e) (.tail _ (.tail _ (.tail _ (.tail _ (.tail _ (.tail _ (.tail _ (.tail _ (.tail _ (.head _)))))))))), ⟨rwm (r3.a, tupOf #[.str (sgn r3.c) r3.t1, .str (txt r3.l) r3.t3] r3.e) (.tail _ (.tail _ (.tail _ (.tail _ (.tail _ (.tail _ (.tail _ (.tail _ (.head _))))))))), ⟨rwm (r4.a, tupOf #[.str (sgn r4.c) r4.t1, .str (txt r4.l) r4.t3] r4.e) (.tail _ (.tail _ (.tail _ (.tail _ (.tail _ (.tail _ (.tail _ (.head _)))))))), ⟨rwm (L + 1, p1) (.tail _ (.tail _ (.tail _ (.head _)))), ⟨rwm (dk, listOf #[.ref xs, .int k1 t1] 0) (.tail _ (.tail _ (.tail _ (.tail _ (.tail _ (.head _)))))), ⟨rwm (xs, LCg.lst ys) (.tail _ (.tail _ (.tail _ (.tail _ (.tail _ (.tail _ (.head _))))))), ⟨rwm (L + 1 + 1 + 1, o3) (.tail _ (.tail _ (.tail _ (.tail _ (.tail _ (.tail _ (.tail _ (.tail _ (.tail _ (.tail _ (.tail _ (.tail _ (.head _))))))))))))), ⟨rwm (L + 1 + 1 + 1 + 1, o4) (.tail _ (.tail _ (.tail _ (.tail _ (.tail _ (.tail _ (.tail _ (.tail _ (.tail _ (.tail _ (.tail _ (.tail _ (.tail _ (.head _)))))))))))))), ⟨rwm (L + 1 + 1 + 1 + 1 + 1, o5) (.tail _ (.tail _ (.tail _ (.tail _ (.tail _ (.tail _ (.tail _ (.tail _ (.tail _ (.tail _ (.tail _ (.tail _ (.tail _ (.tail _ (.head _))))))))))))))), trivial⟩⟩⟩⟩⟩⟩⟩⟩⟩⟩⟩⟩⟩⟩⟩
  refine wpAny_execs_cons ?_
  refine @stmt2 w mean mg mb fa L tb td rw sl cd base h₀ _ p2 ro 5 u1 u2 r0 r1 r2 r3 r4 [(L + 1, p1), (dk, listOf #[.ref xs, .int k1 t1] 0), (xs, LCg.lst ys), (L + 1 + 1 + 1, o3), (L + 1 + 1 + 1 + 1, o4), (L + 1 + 1 + 1 + 1 + 1, o5)] _ _ B F2 X N2'' T (if_pos rfl) q2 hlo hro hfp rk0.1 rk1.1 rk2.1 rk3.1 rk4.1 rk0.2 rk1.2 rk2.2 rk3.2 rk4.2 hrw ?_
  intro y0 y1 y2 y3 y4 ro1 m3 tk3 h3 hro1 ylt hm3 F3 N3
  clear N2''
  obtain ⟨R2, hR2⟩ : ∃ R2, R2 = [(y4.s, instObj 86 y4.d), (y4.d, y4.obj w r4), (y3.s, instObj 86 y3.d), (y3.d, y3.obj w r3), (y2.s, instObj 86 y2.d), (y2.d, y2.obj w r2), (y1.s, instObj 86 y1.d), (y1.d, y1.obj w r1), (y0.s, instObj 86 y0.d), (y0.d, y0.obj w r0), (rw, ro1), (tb, instObj 167 td), (td, tabD w rw u1 u2), (sl, listOf #[.ref r0.a, .ref r1.a, .ref r2.a, .ref r3.a, .ref r4.a] 5), (L + 1 + 1, p2), (r0.a, tupOf #[.str (sgn r0.c) r0.t1, .str (txt r0.l) r0.t3] r0.e), (r1.a, tupOf #[.str (sgn r1.c) r1.t1, .str (txt r1.l) r1.t3] r1.e), (r2.a, tupOf #[.str (sgn r2.c) r2.t1, .str (txt r2.l) r2.t3] r2.e), (r3.a, tupOf #[.str (sgn r3.c) r3.t1, .str (txt r3.l) r3.t3] r3.e), (r4.a, tupOf #[.str (sgn r4.c) r4.t1, .str (txt r4.l) r4.t3] r4.e), (L + 1 + 1 + 1, o3), (L + 1 + 1 + 1 + 1, o4), (L + 1 + 1 + 1 + 1 + 1, o5)] := ⟨_, rfl⟩
  have N3' : News h₀ L h3 ((dk, listOf #[.ref xs, .int k1 t1] 0) :: (L + 1, p1) :: (xs, LCg.lst ys) :: R2) := by
    rw [hR2]
    exact news_sub N3 (List.forall_mem_cons.mpr ⟨.tail _ (.tail _ (.tail _ (.tail _ (.tail _ (.tail _ (.tail _ (.tail _ (.tail _ (.tail _ (.tail _ (.tail _ (.tail _ (.tail _ (.tail _ (.tail _ (.tail _ (.tail _ (.tail _ (.tail _ (.tail _ (.head _))))))))))))))))))))), (List.forall_mem_cons.mpr ⟨.tail _ (.tail _ (.tail _ (.tail _ (.tail _ (.tail _ (.tail _ (.tail _ (.tail _ (.tail _ (.tail _ (.tail _ (.tail _ (.tail _ (.tail _ (.tail _ (.tail _ (.tail _ (.tail _ (.tail _ (.head _)))))))))))))))))))), (List.forall_mem_cons.mpr ⟨.tail _ (.tail _ (.tail _ (.tail _ (.tail _ (.tail _ (.tail _ (.tail _ (.tail _ (.tail _ (.tail _ (.tail _ (.tail _ (.tail _ (.tail _ (.tail _ (.tail _ (.tail _ (.tail _ (.tail _ (.tail _ (.tail _ (.head _)))))))))))))))))))))), (List.forall_mem_cons.mpr ⟨.head _, (List.forall_mem_cons.mpr ⟨.tail _ (.head _), (List.forall_mem_cons.mpr ⟨.tail _ (.tail _ (.head _)), (List.forall_mem_cons.mpr ⟨.tail _ (.tail _ (.tail _ (.head _))), (List.forall_mem_cons.mpr ⟨.tail _ (.tail _ (.tail _ (.tail _ (.head _)))), (List.forall_mem_cons.mpr ⟨.tail _ (.tail _ (.tail _ (.tail _ (.tail _ (.head _))))), (List.forall_mem_cons.mpr ⟨.tail _ (.tail _ (.tail _ (.tail _ (.tail _ (.tail _ (.head _)))))), (List.forall_mem_cons.mpr ⟨.tail _ (.tail _ (.tail _ (.tail _ (.tail _ (.tail _ (.tail _ (.head _))))))), (List.forall_mem_cons.mpr ⟨.tail _ (.tail _ (.tail _ (.tail _ (.tail _ (.tail _ (.tail _ (.tail _ (.head _)))))))), (List.forall_mem_cons.mpr ⟨.tail _ (.tail _ (.tail _ (.tail _ (.tail _ (.tail _ (.tail _ (.tail _ (.tail _ (.head _))))))))), (List.forall_mem_cons.mpr ⟨.tail _ (.tail _ (.tail _ (.tail _ (.tail _ (.tail _ (.tail _ (.tail _ (.tail _ (.tail _ (.head _)))))))))), (List.forall_mem_cons.mpr ⟨.tail _ (.tail _ (.tail _ (.tail _ (.tail _ (.tail _ (.tail _ (.tail _ (.tail _ (.tail _ (.tail _ (.head _))))))))))), (List.forall_mem_cons.mpr ⟨.tail _ (.tail _ (.tail _ (.tail _ (.tail _ (.tail _ (.tail _ (.tail _ (.tail _ (.tail _ (.tail _ (.tail _ (.head _)))))))))))), (List.forall_mem_cons.mpr ⟨.tail _ (.tail _ (.tail _ (.tail _ (.tail _ (.tail _ (.tail _ (.tail _ (.tail _ (.tail _ (.tail _ (.tail _ (.tail _ (.head _))))))))))))), (List.forall_mem_cons.mpr ⟨.tail _ (.tail _ (.tail _ (.tail _ (.tail _ (.tail _ (.tail _ (.tail _ (.tail _ (.tail _ (.tail _ (.tail _ (.tail _ (.tail _ (.head _)))))))))))))), (List.forall_mem_cons.mpr ⟨.tail _ (.tail _ (.tail _ (.tail _ (.tail _ (.tail _ (.tail _ (.tail _ (.tail _ (.tail _ (.tail _ (.tail _ (.tail _ (.tail _ (.tail _ (.head _))))))))))))))), (List.forall_mem_cons.mpr ⟨.tail _ (.tail _ (.tail _ (.tail _ (.tail _ (.tail _ (.tail _ (.tail _ (.tail _ (.tail _ (.tail _ (.tail _ (.tail _ (.tail _ (.tail _ (.tail _ (.head _)))))))))))))))), (List.forall_mem_cons.mpr ⟨.tail _ (.tail _ (.tail _ (.tail _ (.tail _ (.tail _ (.tail _ (.tail _ (.tail _ (.tail _ (.tail _ (.tail _ (.tail _ (.tail _ (.tail _ (.tail _ (.tail _ (.head _))))))))))))))))), (List.forall_mem_cons.mpr ⟨.tail _ (.tail _ (.tail _ (.tail _ (.tail _ (.tail _ (.tail _ (.tail _ (.tail _ (.tail _ (.tail _ (.tail _ (.tail _ (.tail _ (.tail _ (.tail _ (.tail _ (.tail _ (.head _)))))))))))))))))), (List.forall_mem_cons.mpr ⟨.tail _ (.tail _ (.tail _ (.tail _ (.tail _ (.tail _ (.tail _ (.tail _ (.tail _ (.tail _ (.tail _ (.tail _ (.tail _ (.tail _ (.tail _ (.tail _ (.tail _ (.tail _ (.tail _ (.head _))))))))))))))))))), (List.forall_mem_cons.mpr ⟨.tail _ (.tail _ (.tail _ (.tail _ (.tail _ (.tail _ (.tail _ (.tail _ (.tail _ (.tail _ (.tail _ (.tail _ (.tail _ (.tail _ (.tail _ (.tail _ (.tail _ (.tail _ (.tail _ (.tail _ (.tail _ (.tail _ (.tail _ (.head _))))))))))))))))))))))), (List.forall_mem_cons.mpr ⟨.tail _ (.tail _ (.tail _ (.tail _ (.tail _ (.tail _ (.tail _ (.tail _ (.tail _ (.tail _ (.tail _ (.tail _ (.tail _ (.tail _ (.tail _ (.tail _ (.tail _ (.tail _ (.tail _ (.tail _ (.tail _ (.tail _ (.tail _ (.tail _ (.head _)))))))))))))))))))))))), (List.forall_mem_cons.mpr ⟨.tail _ (.tail _ (.tail _ (.tail _ (.tail _ (.tail _ (.tail _ (.tail _ (.tail _ (.tail _ (.tail _ (.tail _ (.tail _ (.tail _ (.tail _ (.tail _ (.tail _ (.tail _ (.tail _ (.tail _ (.tail _ (.tail _ (.tail _ (.tail _ (.tail _ (.head _))))))))))))))))))))))))), (fun _ h => nomatch h)⟩)⟩)⟩)⟩)⟩)⟩)⟩)⟩)⟩)⟩)⟩)⟩)⟩)⟩)⟩)⟩)⟩)⟩)⟩)⟩)⟩)⟩)⟩)⟩)⟩)⟩)
  clear N3
  have dkrw : @LT.lt Nat _ dk rw := rwm _ (.tail _ (.tail _ (.tail _ (.tail _ (.tail _ (.head _))))))
  have slo' : L + 1 ≠ sl ∧ L + 1 + 1 ≠ sl ∧ dk ≠ sl ∧ xs ≠ sl ∧ LCg.Off1 sl [(r4.a, tupOf #[.str (sgn r4.c) r4.t1, .str (txt r4.l) r4.t3] r4.e), (r3.a, tupOf #[.str (sgn r3.c) r3.t1, .str (txt r3.l) r3.t3] r3.e), (r2.a, tupOf #[.str (sgn r2.c) r2.t1, .str (txt r2.l) r2.t3] r2.e), (r1.a, tupOf #[.str (sgn r1.c) r1.t1, .str (txt r1.l) r1.t3] r1.e), (r0.a, tupOf #[.str (sgn r0.c) r0.t1, .str (txt r0.l) r0.t3] r0.e), (L + 1 + 1 + 1, o3), (L + 1 + 1 + 1 + 1, o4), (L + 1 + 1 + 1 + 1 + 1, o5)] := slo
  have tdm : AllLt td [(sl, listOf #[.ref r0.a, .ref r1.a, .ref r2.a, .ref r3.a, .ref r4.a] 5), (L + 1, p1), (L + 1 + 1, o2), (dk, listOf #[.ref xs, .int k1 t1] 0), (xs, LCg.lst ys), (r4.a, tupOf #[.str (sgn r4.c) r4.t1, .str (txt r4.l) r4.t3] r4.e), (r3.a, tupOf #[.str (sgn r3.c) r3.t1, .str (txt r3.l) r3.t3] r3.e), (r2.a, tupOf #[.str (sgn r2.c) r2.t1, .str (txt r2.l) r2.t3] r2.e), (r1.a, tupOf #[.str (sgn r1.c) r1.t1, .str (txt r1.l) r1.t3] r1.e), (r0.a, tupOf #[.str (sgn r0.c) r0.t1, .str (txt r0.l) r0.t3] r0.e), (L + 1 + 1 + 1, o3), (L + 1 + 1 + 1 + 1, o4), (L + 1 + 1 + 1 + 1 + 1, o5)] := tdl
  have tdm' := ktn_ltOf tdm
  have offd : ∀ p ∈ R2, p.1 ≠ dk := by
    rw [hR2]
    exact (List.forall_mem_cons.mpr ⟨Nat.ne_of_gt (Nat.lt_trans (Nat.lt_trans (rwm _ (.tail _ (.tail _ (.tail _ (.tail _ (.tail _ (.head _))))))) (ylt.2.2.2.2.2.2.2.2.1)) (ylt.2.2.2.2.2.2.2.2.2)), (List.forall_mem_cons.mpr ⟨Nat.ne_of_gt (Nat.lt_trans (rwm _ (.tail _ (.tail _ (.tail _ (.tail _ (.tail _ (.head _))))))) (ylt.2.2.2.2.2.2.2.2.1)), (List.forall_mem_cons.mpr ⟨Nat.ne_of_gt (Nat.lt_trans (Nat.lt_trans (rwm _ (.tail _ (.tail _ (.tail _ (.tail _ (.tail _ (.head _))))))) (ylt.2.2.2.2.2.2.1)) (ylt.2.2.2.2.2.2.2.1)), (List.forall_mem_cons.mpr ⟨Nat.ne_of_gt (Nat.lt_trans (rwm _ (.tail _ (.tail _ (.tail _ (.tail _ (.tail _ (.head _))))))) (ylt.2.2.2.2.2.2.1)), (List.forall_mem_cons.mpr ⟨Nat.ne_of_gt (Nat.lt_trans (Nat.lt_trans (rwm _ (.tail _ (.tail _ (.tail _ (.tail _ (.tail _ (.head _))))))) (ylt.2.2.2.2.1)) (ylt.2.2.2.2.2.1)), (List.forall_mem_cons.mpr ⟨Nat.ne_of_gt (Nat.lt_trans (rwm _ (.tail _ (.tail _ (.tail _ (.tail _ (.tail _ (.head _))))))) (ylt.2.2.2.2.1)), (List.forall_mem_cons.mpr ⟨Nat.ne_of_gt (Nat.lt_trans (Nat.lt_trans (rwm _ (.tail _ (.tail _ (.tail _ (.tail _ (.tail _ (.head _))))))) (ylt.2.2.1)) (ylt.2.2.2.1)), (List.forall_mem_cons.mpr ⟨Nat.ne_of_gt (Nat.lt_trans (rwm _ (.tail _ (.tail _ (.tail _ (.tail _ (.tail _ (.head _))))))) (ylt.2.2.1)), (List.forall_mem_cons.mpr ⟨Nat.ne_of_gt (Nat.lt_trans (Nat.lt_trans (rwm _ (.tail _ (.tail _ (.tail _ (.tail _ (.tail _ (.head _))))))) (ylt.1)) (ylt.2.1)), (List.forall_mem_cons.mpr ⟨Nat.ne_of_gt (Nat.lt_trans (rwm _ (.tail _ (.tail _ (.tail _ (.tail _ (.tail _ (.head _))))))) (ylt.1)), (List.forall_mem_cons.mpr ⟨Nat.ne_of_gt (rwm _ (.tail _ (.tail _ (.tail _ (.tail _ (.tail _ (.head _))))))), (List.forall_mem_cons.mpr ⟨Nat.ne_of_gt (Nat.lt_trans (tdm' _ (.tail _ (.tail _ (.tail _ (.head _))))) tbl), (List.forall_mem_cons.mpr ⟨Nat.ne_of_gt (tdm' _ (.tail _ (.tail _ (.tail _ (.head _))))), (List.forall_mem_cons.mpr ⟨Ne.symm slo'.2.2.1, (List.forall_mem_cons.mpr ⟨Nat.ne_of_lt dlt2, (List.forall_mem_cons.mpr ⟨Nat.ne_of_gt (ktn_ltOf rl0 _ (.tail _ (.tail _ (.head _)))), (List.forall_mem_cons.mpr ⟨Nat.ne_of_gt (ktn_ltOf rl1 _ (.tail _ (.tail _ (.head _)))), (List.forall_mem_cons.mpr ⟨Nat.ne_of_gt (ktn_ltOf rl2 _ (.tail _ (.tail _ (.head _)))), (List.forall_mem_cons.mpr ⟨Nat.ne_of_gt (ktn_ltOf rl3 _ (.tail _ (.tail _ (.head _)))), (List.forall_mem_cons.mpr ⟨Nat.ne_of_gt (ktn_ltOf rl4 _ (.tail _ (.tail _ (.head _)))), (List.forall_mem_cons.mpr ⟨Nat.ne_of_lt dlt3, (List.forall_mem_cons.mpr ⟨Nat.ne_of_lt dlt4, (List.forall_mem_cons.mpr ⟨Nat.ne_of_lt dlt5, (fun _ h => nomatch h)⟩)⟩)⟩)⟩)⟩)⟩)⟩)⟩)⟩)⟩)⟩)⟩)⟩)⟩)⟩)⟩)⟩)⟩)⟩)⟩)⟩)⟩)⟩)
  refine wpAny_execs_cons ?_
  refine @stmt3 w mean mg mb fa L dk xs cd ys ms base h₀ m3 p1 k1 t1 R2 _ _ _ B F3 X N3' T hIy hms q1 offd hxd (Nat.ne_of_lt dlt1) (by omega) (by omega) ?_
  intro rl rvs row k2 t2 tk4 h4 hrv hrl hrow hk2 hk3 rlo F4 N4
  clear N3'
  have offd' : ∀ p ∈ (rl, LCg.lst rvs) :: R2, p.1 ≠ dk := List.forall_mem_cons.mpr ⟨Ne.symm (rlo _ (.head _)), offd⟩
  have N4' : News h₀ L h4 ((dk, listOf #[.ref xs, .int k2 t2] 0) :: (L + 1, p1) :: (xs, LCg.lst ys) :: (rl, LCg.lst rvs) :: R2) := news_sub N4 (List.forall_mem_cons.mpr ⟨.tail _ (.head _), List.forall_mem_cons.mpr ⟨.tail _ (.tail _ (.head _)), List.forall_mem_cons.mpr ⟨.tail _ (.tail _ (.tail _ (.head _))), List.forall_mem_cons.mpr ⟨.head _, fun p hp => .tail _ (.tail _ (.tail _ (.tail _ (hp))))⟩⟩⟩⟩)
  clear N4
  refine wpAny_execs_cons ?_
  refine @stmt4 w mean mg mb fa L dk xs cd ys ms base h₀ _ p1 k2 t2 ((rl, LCg.lst rvs) :: R2) _ _ _ B F4 X N4' T hIy hms q1 offd' hxd (Nat.ne_of_lt dlt1) (by omega) (by omega) ?_
  intro b tb0 t3 tk5 h5 hb0 hb1 F5 N5
  clear N4'
  have inR2 : ∀ p ∈ R2, p ∈ (dk, listOf #[.ref xs, .int (k2 + 1) t3] 0) :: (L + 1, p1) :: (xs, LCg.lst ys) :: (rl, LCg.lst rvs) :: R2 := fun p hp => .tail _ (.tail _ (.tail _ (.tail _ (hp))))
  have g2 : (L + 1 + 1, p2) ∈ R2 := by rw [hR2]; exact .tail _ (.tail _ (.tail _ (.tail _ (.tail _ (.tail _ (.tail _ (.tail _ (.tail _ (.tail _ (.tail _ (.tail _ (.tail _ (.tail _ (.head _))))))))))))))
  have g3 : (sl, listOf (refs5 r0 r1 r2 r3 r4).toArray 5) ∈ R2 := by rw [hR2]; exact .tail _ (.tail _ (.tail _ (.tail _ (.tail _ (.tail _ (.tail _ (.tail _ (.tail _ (.tail _ (.tail _ (.tail _ (.tail _ (.head _)))))))))))))
  refine wpAny_execs_cons ?_
  refine @stmt5 w mean mg mb fa L rl sl cd rvs (refs5 r0 r1 r2 r3 r4) row base h₀ _ p2 b tb0 5 ((dk, listOf #[.ref xs, .int (k2 + 1) t3] 0) :: (L + 1, p1) :: (xs, LCg.lst ys) :: (rl, LCg.lst rvs) :: R2) _ _ _ B F5 X N5 T (.tail _ (.tail _ (.tail _ (.head _)))) (inR2 _ g2) (inR2 _ g3) q2 rfl hrv hrl hrow hb0 hb1 ?m1 ?m2 ?_
  case m1 => rw [if_neg (by decide), if_pos rfl]
  case m2 => rw [if_pos rfl]
  intro vw vd cds mk cvs e2 w1 w2 w3 tk6 h6 hcv o6 F6 N6
  clear N5
  obtain ⟨R6, hR6⟩ : ∃ R6, R6 = [(mk, LCg.lst (marksOf r0 r1 r2 r3 r4 row)), (cds, listOf cvs.toArray e2), (vw, instObj 338 vd), (vd, viewD w cds b w1 w2 w3), (dk, listOf #[.ref xs, .int (k2 + 1) t3] 0), (L + 1, p1), (xs, LCg.lst ys), (rl, LCg.lst rvs), (y4.s, instObj 86 y4.d), (y4.d, y4.obj w r4), (y3.s, instObj 86 y3.d), (y3.d, y3.obj w r3), (y2.s, instObj 86 y2.d), (y2.d, y2.obj w r2), (y1.s, instObj 86 y1.d), (y1.d, y1.obj w r1), (y0.s, instObj 86 y0.d), (y0.d, y0.obj w r0), (rw, ro1), (tb, instObj 167 td), (td, tabD w rw u1 u2), (sl, listOf #[.ref r0.a, .ref r1.a, .ref r2.a, .ref r3.a, .ref r4.a] 5), (L + 1 + 1, p2), (r0.a, tupOf #[.str (sgn r0.c) r0.t1, .str (txt r0.l) r0.t3] r0.e), (r1.a, tupOf #[.str (sgn r1.c) r1.t1, .str (txt r1.l) r1.t3] r1.e), (r2.a, tupOf #[.str (sgn r2.c) r2.t1, .str (txt r2.l) r2.t3] r2.e), (r3.a, tupOf #[.str (sgn r3.c) r3.t1, .str (txt r3.l) r3.t3] r3.e), (r4.a, tupOf #[.str (sgn r4.c) r4.t1, .str (txt r4.l) r4.t3] r4.e)] := ⟨_, rfl⟩
  have N6' : News h₀ L h6 ((L + 1 + 1 + 1, o3) :: (L + 1 + 1 + 1 + 1, o4) :: (L + 1 + 1 + 1 + 1 + 1, o5) :: R6) := by
    rw [hR2] at N6
    rw [hR6]
    exact news_sub N6 (List.forall_mem_cons.mpr ⟨.tail _ (.tail _ (.tail _ (.tail _ (.tail _ (.tail _ (.tail _ (.tail _ (.tail _ (.tail _ (.tail _ (.tail _ (.tail _ (.tail _ (.tail _ (.tail _ (.tail _ (.tail _ (.tail _ (.tail _ (.tail _ (.tail _ (.tail _ (.tail _ (.tail _ (.tail _ (.tail _ (.tail _ (.head _)))))))))))))))))))))))))))), (List.forall_mem_cons.mpr ⟨.tail _ (.tail _ (.tail _ (.tail _ (.tail _ (.tail _ (.tail _ (.tail _ (.tail _ (.tail _ (.tail _ (.tail _ (.tail _ (.tail _ (.tail _ (.tail _ (.tail _ (.tail _ (.tail _ (.tail _ (.tail _ (.tail _ (.tail _ (.tail _ (.tail _ (.tail _ (.tail _ (.tail _ (.tail _ (.head _))))))))))))))))))))))))))))), (List.forall_mem_cons.mpr ⟨.tail _ (.tail _ (.tail _ (.tail _ (.tail _ (.tail _ (.tail _ (.tail _ (.tail _ (.tail _ (.tail _ (.tail _ (.tail _ (.tail _ (.tail _ (.tail _ (.tail _ (.tail _ (.tail _ (.tail _ (.tail _ (.tail _ (.tail _ (.tail _ (.tail _ (.tail _ (.tail _ (.tail _ (.tail _ (.tail _ (.head _)))))))))))))))))))))))))))))), (List.forall_mem_cons.mpr ⟨.head _, (List.forall_mem_cons.mpr ⟨.tail _ (.head _), (List.forall_mem_cons.mpr ⟨.tail _ (.tail _ (.head _)), (List.forall_mem_cons.mpr ⟨.tail _ (.tail _ (.tail _ (.head _))), (List.forall_mem_cons.mpr ⟨.tail _ (.tail _ (.tail _ (.tail _ (.head _)))), (List.forall_mem_cons.mpr ⟨.tail _ (.tail _ (.tail _ (.tail _ (.tail _ (.head _))))), (List.forall_mem_cons.mpr ⟨.tail _ (.tail _ (.tail _ (.tail _ (.tail _ (.tail _ (.head _)))))), (List.forall_mem_cons.mpr ⟨.tail _ (.tail _ (.tail _ (.tail _ (.tail _ (.tail _ (.tail _ (.head _))))))), (List.forall_mem_cons.mpr ⟨.tail _ (.tail _ (.tail _ (.tail _ (.tail _ (.tail _ (.tail _ (.tail _ (.head _)))))))), (List.forall_mem_cons.mpr ⟨.tail _ (.tail _ (.tail _ (.tail _ (.tail _ (.tail _ (.tail _ (.tail _ (.tail _ (.head _))))))))), (List.forall_mem_cons.mpr ⟨.tail _ (.tail _ (.tail _ (.tail _ (.tail _ (.tail _ (.tail _ (.tail _ (.tail _ (.tail _ (.head _)))))))))), (List.forall_mem_cons.mpr ⟨.tail _ (.tail _ (.tail _ (.tail _ (.tail _ (.tail _ (.tail _ (.tail _ (.tail _ (.tail _ (.tail _ (.head _))))))))))), (List.forall_mem_cons.mpr ⟨.tail _ (.tail _ (.tail _ (.tail _ (.tail _ (.tail _ (.tail _ (.tail _ (.tail _ (.tail _ (.tail _ (.tail _ (.head _)))))))))))), (List.forall_mem_cons.mpr ⟨.tail _ (.tail _ (.tail _ (.tail _ (.tail _ (.tail _ (.tail _ (.tail _ (.tail _ (.tail _ (.tail _ (.tail _ (.tail _ (.head _))))))))))))), (List.forall_mem_cons.mpr ⟨.tail _ (.tail _ (.tail _ (.tail _ (.tail _ (.tail _ (.tail _ (.tail _ (.tail _ (.tail _ (.tail _ (.tail _ (.tail _ (.tail _ (.head _)))))))))))))), (List.forall_mem_cons.mpr ⟨.tail _ (.tail _ (.tail _ (.tail _ (.tail _ (.tail _ (.tail _ (.tail _ (.tail _ (.tail _ (.tail _ (.tail _ (.tail _ (.tail _ (.tail _ (.head _))))))))))))))), (List.forall_mem_cons.mpr ⟨.tail _ (.tail _ (.tail _ (.tail _ (.tail _ (.tail _ (.tail _ (.tail _ (.tail _ (.tail _ (.tail _ (.tail _ (.tail _ (.tail _ (.tail _ (.tail _ (.head _)))))))))))))))), (List.forall_mem_cons.mpr ⟨.tail _ (.tail _ (.tail _ (.tail _ (.tail _ (.tail _ (.tail _ (.tail _ (.tail _ (.tail _ (.tail _ (.tail _ (.tail _ (.tail _ (.tail _ (.tail _ (.tail _ (.head _))))))))))))))))), (List.forall_mem_cons.mpr ⟨.tail _ (.tail _ (.tail _ (.tail _ (.tail _ (.tail _ (.tail _ (.tail _ (.tail _ (.tail _ (.tail _ (.tail _ (.tail _ (.tail _ (.tail _ (.tail _ (.tail _ (.tail _ (.head _)))))))))))))))))), (List.forall_mem_cons.mpr ⟨.tail _ (.tail _ (.tail _ (.tail _ (.tail _ (.tail _ (.tail _ (.tail _ (.tail _ (.tail _ (.tail _ (.tail _ (.tail _ (.tail _ (.tail _ (.tail _ (.tail _ (.tail _ (.tail _ (.head _))))))))))))))))))), (List.forall_mem_cons.mpr ⟨.tail _ (.tail _ (.tail _ (.tail _ (.tail _ (.tail _ (.tail _ (.tail _ (.tail _ (.tail _ (.tail _ (.tail _ (.tail _ (.tail _ (.tail _ (.tail _ (.tail _ (.tail _ (.tail _ (.tail _ (.head _)))))))))))))))))))), (List.forall_mem_cons.mpr ⟨.tail _ (.tail _ (.tail _ (.tail _ (.tail _ (.tail _ (.tail _ (.tail _ (.tail _ (.tail _ (.tail _ (.tail _ (.tail _ (.tail _ (.tail _ (.tail _ (.tail _ (.tail _ (.tail _ (.tail _ (.tail _ (.head _))))))))))))))))))))), (List.forall_mem_cons.mpr ⟨.tail _ (.tail _ (.tail _ (.tail _ (.tail _ (.tail _ (.tail _ (.tail _ (.tail _ (.tail _ (.tail _ (.tail _ (.tail _ (.tail _ (.tail _ (.tail _ (.tail _ (.tail _ (.tail _ (.tail _ (.tail _ (.tail _ (.head _)))))))))))))))))))))), (List.forall_mem_cons.mpr ⟨.tail _ (.tail _ (.tail _ (.tail _ (.tail _ (.tail _ (.tail _ (.tail _ (.tail _ (.tail _ (.tail _ (.tail _ (.tail _ (.tail _ (.tail _ (.tail _ (.tail _ (.tail _ (.tail _ (.tail _ (.tail _ (.tail _ (.tail _ (.head _))))))))))))))))))))))), (List.forall_mem_cons.mpr ⟨.tail _ (.tail _ (.tail _ (.tail _ (.tail _ (.tail _ (.tail _ (.tail _ (.tail _ (.tail _ (.tail _ (.tail _ (.tail _ (.tail _ (.tail _ (.tail _ (.tail _ (.tail _ (.tail _ (.tail _ (.tail _ (.tail _ (.tail _ (.tail _ (.head _)))))))))))))))))))))))), (List.forall_mem_cons.mpr ⟨.tail _ (.tail _ (.tail _ (.tail _ (.tail _ (.tail _ (.tail _ (.tail _ (.tail _ (.tail _ (.tail _ (.tail _ (.tail _ (.tail _ (.tail _ (.tail _ (.tail _ (.tail _ (.tail _ (.tail _ (.tail _ (.tail _ (.tail _ (.tail _ (.tail _ (.head _))))))))))))))))))))))))), (List.forall_mem_cons.mpr ⟨.tail _ (.tail _ (.tail _ (.tail _ (.tail _ (.tail _ (.tail _ (.tail _ (.tail _ (.tail _ (.tail _ (.tail _ (.tail _ (.tail _ (.tail _ (.tail _ (.tail _ (.tail _ (.tail _ (.tail _ (.tail _ (.tail _ (.tail _ (.tail _ (.tail _ (.tail _ (.head _)))))))))))))))))))))))))), (List.forall_mem_cons.mpr ⟨.tail _ (.tail _ (.tail _ (.tail _ (.tail _ (.tail _ (.tail _ (.tail _ (.tail _ (.tail _ (.tail _ (.tail _ (.tail _ (.tail _ (.tail _ (.tail _ (.tail _ (.tail _ (.tail _ (.tail _ (.tail _ (.tail _ (.tail _ (.tail _ (.tail _ (.tail _ (.tail _ (.head _))))))))))))))))))))))))))), (fun _ h => nomatch h)⟩)⟩)⟩)⟩)⟩)⟩)⟩)⟩)⟩)⟩)⟩)⟩)⟩)⟩)⟩)⟩)⟩)⟩)⟩)⟩)⟩)⟩)⟩)⟩)⟩)⟩)⟩)⟩)⟩)⟩)⟩)
  clear N6
  have inc3 : (L + 1 + 1 + 1, o3) ∈ R2 := by rw [hR2]; exact .tail _ (.tail _ (.tail _ (.tail _ (.tail _ (.tail _ (.tail _ (.tail _ (.tail _ (.tail _ (.tail _ (.tail _ (.tail _ (.tail _ (.tail _ (.tail _ (.tail _ (.tail _ (.tail _ (.tail _ (.head _))))))))))))))))))))
  have offc3 : ∀ p ∈ R6, p.1 ≠ L + 1 + 1 + 1 := by
    rw [hR6]
    exact (List.forall_mem_cons.mpr ⟨Ne.symm (o6 _ (inR2 _ inc3)).1, (List.forall_mem_cons.mpr ⟨Ne.symm (o6 _ (inR2 _ inc3)).2.1, (List.forall_mem_cons.mpr ⟨Ne.symm (o6 _ (inR2 _ inc3)).2.2.1, (List.forall_mem_cons.mpr ⟨Ne.symm (o6 _ (inR2 _ inc3)).2.2.2, (List.forall_mem_cons.mpr ⟨Nat.ne_of_gt dlt3, (List.forall_mem_cons.mpr ⟨Ne.symm e31, (List.forall_mem_cons.mpr ⟨Ne.symm x3, (List.forall_mem_cons.mpr ⟨Ne.symm (rlo _ (.tail _ (.tail _ (.tail _ (inc3))))), (List.forall_mem_cons.mpr ⟨Nat.ne_of_gt (Nat.lt_trans (Nat.lt_trans (rwm _ (.tail _ (.tail _ (.tail _ (.tail _ (.tail _ (.tail _ (.tail _ (.tail _ (.tail _ (.tail _ (.tail _ (.tail _ (.head _)))))))))))))) (ylt.2.2.2.2.2.2.2.2.1)) (ylt.2.2.2.2.2.2.2.2.2)), (List.forall_mem_cons.mpr ⟨Nat.ne_of_gt (Nat.lt_trans (rwm _ (.tail _ (.tail _ (.tail _ (.tail _ (.tail _ (.tail _ (.tail _ (.tail _ (.tail _ (.tail _ (.tail _ (.tail _ (.head _)))))))))))))) (ylt.2.2.2.2.2.2.2.2.1)), (List.forall_mem_cons.mpr ⟨Nat.ne_of_gt (Nat.lt_trans (Nat.lt_trans (rwm _ (.tail _ (.tail _ (.tail _ (.tail _ (.tail _ (.tail _ (.tail _ (.tail _ (.tail _ (.tail _ (.tail _ (.tail _ (.head _)))))))))))))) (ylt.2.2.2.2.2.2.1)) (ylt.2.2.2.2.2.2.2.1)), (List.forall_mem_cons.mpr ⟨Nat.ne_of_gt (Nat.lt_trans (rwm _ (.tail _ (.tail _ (.tail _ (.tail _ (.tail _ (.tail _ (.tail _ (.tail _ (.tail _ (.tail _ (.tail _ (.tail _ (.head _)))))))))))))) (ylt.2.2.2.2.2.2.1)), (List.forall_mem_cons.mpr ⟨Nat.ne_of_gt (Nat.lt_trans (Nat.lt_trans (rwm _ (.tail _ (.tail _ (.tail _ (.tail _ (.tail _ (.tail _ (.tail _ (.tail _ (.tail _ (.tail _ (.tail _ (.tail _ (.head _)))))))))))))) (ylt.2.2.2.2.1)) (ylt.2.2.2.2.2.1)), (List.forall_mem_cons.mpr ⟨Nat.ne_of_gt (Nat.lt_trans (rwm _ (.tail _ (.tail _ (.tail _ (.tail _ (.tail _ (.tail _ (.tail _ (.tail _ (.tail _ (.tail _ (.tail _ (.tail _ (.head _)))))))))))))) (ylt.2.2.2.2.1)), (List.forall_mem_cons.mpr ⟨Nat.ne_of_gt (Nat.lt_trans (Nat.lt_trans (rwm _ (.tail _ (.tail _ (.tail _ (.tail _ (.tail _ (.tail _ (.tail _ (.tail _ (.tail _ (.tail _ (.tail _ (.tail _ (.head _)))))))))))))) (ylt.2.2.1)) (ylt.2.2.2.1)), (List.forall_mem_cons.mpr ⟨Nat.ne_of_gt (Nat.lt_trans (rwm _ (.tail _ (.tail _ (.tail _ (.tail _ (.tail _ (.tail _ (.tail _ (.tail _ (.tail _ (.tail _ (.tail _ (.tail _ (.head _)))))))))))))) (ylt.2.2.1)), (List.forall_mem_cons.mpr ⟨Nat.ne_of_gt (Nat.lt_trans (Nat.lt_trans (rwm _ (.tail _ (.tail _ (.tail _ (.tail _ (.tail _ (.tail _ (.tail _ (.tail _ (.tail _ (.tail _ (.tail _ (.tail _ (.head _)))))))))))))) (ylt.1)) (ylt.2.1)), (List.forall_mem_cons.mpr ⟨Nat.ne_of_gt (Nat.lt_trans (rwm _ (.tail _ (.tail _ (.tail _ (.tail _ (.tail _ (.tail _ (.tail _ (.tail _ (.tail _ (.tail _ (.tail _ (.tail _ (.head _)))))))))))))) (ylt.1)), (List.forall_mem_cons.mpr ⟨Nat.ne_of_gt (rwm _ (.tail _ (.tail _ (.tail _ (.tail _ (.tail _ (.tail _ (.tail _ (.tail _ (.tail _ (.tail _ (.tail _ (.tail _ (.head _)))))))))))))), (List.forall_mem_cons.mpr ⟨Nat.ne_of_gt (Nat.lt_trans (tdm' _ (.tail _ (.tail _ (.tail _ (.tail _ (.tail _ (.tail _ (.tail _ (.tail _ (.tail _ (.tail _ (.head _)))))))))))) tbl), (List.forall_mem_cons.mpr ⟨Nat.ne_of_gt (tdm' _ (.tail _ (.tail _ (.tail _ (.tail _ (.tail _ (.tail _ (.tail _ (.tail _ (.tail _ (.tail _ (.head _)))))))))))), (List.forall_mem_cons.mpr ⟨Ne.symm (off1_mem slo'.2.2.2.2 _ (.tail _ (.tail _ (.tail _ (.tail _ (.tail _ (.head _))))))), (List.forall_mem_cons.mpr ⟨Ne.symm e32, (List.forall_mem_cons.mpr ⟨Nat.ne_of_gt (ktn_ltOf rl0 _ (.tail _ (.tail _ (.tail _ (.tail _ (.head _)))))), (List.forall_mem_cons.mpr ⟨Nat.ne_of_gt (ktn_ltOf rl1 _ (.tail _ (.tail _ (.tail _ (.tail _ (.head _)))))), (List.forall_mem_cons.mpr ⟨Nat.ne_of_gt (ktn_ltOf rl2 _ (.tail _ (.tail _ (.tail _ (.tail _ (.head _)))))), (List.forall_mem_cons.mpr ⟨Nat.ne_of_gt (ktn_ltOf rl3 _ (.tail _ (.tail _ (.tail _ (.tail _ (.head _)))))), (List.forall_mem_cons.mpr ⟨Nat.ne_of_gt (ktn_ltOf rl4 _ (.tail _ (.tail _ (.tail _ (.tail _ (.head _)))))), (fun _ h => nomatch h)⟩)⟩)⟩)⟩)⟩)⟩)⟩)⟩)⟩)⟩)⟩)⟩)⟩)⟩)⟩)⟩)⟩)⟩)⟩)⟩)⟩)⟩)⟩)⟩)⟩)⟩)⟩)⟩)
  have inc4 : (L + 1 + 1 + 1 + 1, o4) ∈ R2 := by rw [hR2]; exact .tail _ (.tail _ (.tail _ (.tail _ (.tail _ (.tail _ (.tail _ (.tail _ (.tail _ (.tail _ (.tail _ (.tail _ (.tail _ (.tail _ (.tail _ (.tail _ (.tail _ (.tail _ (.tail _ (.tail _ (.tail _ (.head _)))))))))))))))))))))
  have offc4 : ∀ p ∈ R6, p.1 ≠ L + 1 + 1 + 1 + 1 := by
    rw [hR6]
    exact (List.forall_mem_cons.mpr ⟨Ne.symm (o6 _ (inR2 _ inc4)).1, (List.forall_mem_cons.mpr ⟨Ne.symm (o6 _ (inR2 _ inc4)).2.1, (List.forall_mem_cons.mpr ⟨Ne.symm (o6 _ (inR2 _ inc4)).2.2.1, (List.forall_mem_cons.mpr ⟨Ne.symm (o6 _ (inR2 _ inc4)).2.2.2, (List.forall_mem_cons.mpr ⟨Nat.ne_of_gt dlt4, (List.forall_mem_cons.mpr ⟨Ne.symm e41, (List.forall_mem_cons.mpr ⟨Ne.symm x4, (List.forall_mem_cons.mpr ⟨Ne.symm (rlo _ (.tail _ (.tail _ (.tail _ (inc4))))), (List.forall_mem_cons.mpr ⟨Nat.ne_of_gt (Nat.lt_trans (Nat.lt_trans (rwm _ (.tail _ (.tail _ (.tail _ (.tail _ (.tail _ (.tail _ (.tail _ (.tail _ (.tail _ (.tail _ (.tail _ (.tail _ (.tail _ (.head _))))))))))))))) (ylt.2.2.2.2.2.2.2.2.1)) (ylt.2.2.2.2.2.2.2.2.2)), (List.forall_mem_cons.mpr ⟨Nat.ne_of_gt (Nat.lt_trans (rwm _ (.tail _ (.tail _ (.tail _ (.tail _ (.tail _ (.tail _ (.tail _ (.tail _ (.tail _ (.tail _ (.tail _ (.tail _ (.tail _ (.head _))))))))))))))) (ylt.2.2.2.2.2.2.2.2.1)), (List.forall_mem_cons.mpr ⟨Nat.ne_of_gt (Nat.lt_trans (Nat.lt_trans (rwm _ (.tail _ (.tail _ (.tail _ (.tail _ (.tail _ (.tail _ (.tail _ (.tail _ (.tail _ (.tail _ (.tail _ (.tail _ (.tail _ (.head _))))))))))))))) (ylt.2.2.2.2.2.2.1)) (ylt.2.2.2.2.2.2.2.1)), (List.forall_mem_cons.mpr ⟨Nat.ne_of_gt (Nat.lt_trans (rwm _ (.tail _ (.tail _ (.tail _ (.tail _ (.tail _ (.tail _ (.tail _ (.tail _ (.tail _ (.tail _ (.tail _ (.tail _ (.tail _ (.head _))))))))))))))) (ylt.2.2.2.2.2.2.1)), (List.forall_mem_cons.mpr ⟨Nat.ne_of_gt (Nat.lt_trans (Nat.lt_trans (rwm _ (.tail _ (.tail _ (.tail _ (.tail _ (.tail _ (.tail _ (.tail _ (.tail _ (.tail _ (.tail _ (.tail _ (.tail _ (.tail _ (.head _))))))))))))))) (ylt.2.2.2.2.1)) (ylt.2.2.2.2.2.1)), (List.forall_mem_cons.mpr ⟨Nat.ne_of_gt (Nat.lt_trans (rwm _ (.tail _ (.tail _ (.tail _ (.tail _ (.tail _ (.tail _ (.tail _ (.tail _ (.tail _ (.tail _ (.tail _ (.tail _ (.tail _ (.head _))))))))))))))) (ylt.2.2.2.2.1)), (List.forall_mem_cons.mpr ⟨Nat.ne_of_gt (Nat.lt_trans (Nat.lt_trans (rwm _ (.tail _ (.tail _ (.tail _ (.tail _ (.tail _ (.tail _ (.tail _ (.tail _ (.tail _ (.tail _ (.tail _ (.tail _ (.tail _ (.head _))))))))))))))) (ylt.2.2.1)) (ylt.2.2.2.1)), (List.forall_mem_cons.mpr ⟨Nat.ne_of_gt (Nat.lt_trans (rwm _ (.tail _ (.tail _ (.tail _ (.tail _ (.tail _ (.tail _ (.tail _ (.tail _ (.tail _ (.tail _ (.tail _ (.tail _ (.tail _ (.head _))))))))))))))) (ylt.2.2.1)), (List.forall_mem_cons.mpr ⟨Nat.ne_of_gt (Nat.lt_trans (Nat.lt_trans (rwm _ (.tail _ (.tail _ (.tail _ (.tail _ (.tail _ (.tail _ (.tail _ (.tail _ (.tail _ (.tail _ (.tail _ (.tail _ (.tail _ (.head _))))))))))))))) (ylt.1)) (ylt.2.1)), (List.forall_mem_cons.mpr ⟨Nat.ne_of_gt (Nat.lt_trans (rwm _ (.tail _ (.tail _ (.tail _ (.tail _ (.tail _ (.tail _ (.tail _ (.tail _ (.tail _ (.tail _ (.tail _ (.tail _ (.tail _ (.head _))))))))))))))) (ylt.1)), (List.forall_mem_cons.mpr ⟨Nat.ne_of_gt (rwm _ (.tail _ (.tail _ (.tail _ (.tail _ (.tail _ (.tail _ (.tail _ (.tail _ (.tail _ (.tail _ (.tail _ (.tail _ (.tail _ (.head _))))))))))))))), (List.forall_mem_cons.mpr ⟨Nat.ne_of_gt (Nat.lt_trans (tdm' _ (.tail _ (.tail _ (.tail _ (.tail _ (.tail _ (.tail _ (.tail _ (.tail _ (.tail _ (.tail _ (.tail _ (.head _))))))))))))) tbl), (List.forall_mem_cons.mpr ⟨Nat.ne_of_gt (tdm' _ (.tail _ (.tail _ (.tail _ (.tail _ (.tail _ (.tail _ (.tail _ (.tail _ (.tail _ (.tail _ (.tail _ (.head _))))))))))))), (List.forall_mem_cons.mpr ⟨Ne.symm (off1_mem slo'.2.2.2.2 _ (.tail _ (.tail _ (.tail _ (.tail _ (.tail _ (.tail _ (.head _)))))))), (List.forall_mem_cons.mpr ⟨Ne.symm e42, (List.forall_mem_cons.mpr ⟨Nat.ne_of_gt (ktn_ltOf rl0 _ (.tail _ (.tail _ (.tail _ (.tail _ (.tail _ (.head _))))))), (List.forall_mem_cons.mpr ⟨Nat.ne_of_gt (ktn_ltOf rl1 _ (.tail _ (.tail _ (.tail _ (.tail _ (.tail _ (.head _))))))), (List.forall_mem_cons.mpr ⟨Nat.ne_of_gt (ktn_ltOf rl2 _ (.tail _ (.tail _ (.tail _ (.tail _ (.tail _ (.head _))))))), (List.forall_mem_cons.mpr ⟨Nat.ne_of_gt (ktn_ltOf rl3 _ (.tail _ (.tail _ (.tail _ (.tail _ (.tail _ (.head _))))))), (List.forall_mem_cons.mpr ⟨Nat.ne_of_gt (ktn_ltOf rl4 _ (.tail _ (.tail _ (.tail _ (.tail _ (.tail _ (.head _))))))), (fun _ h => nomatch h)⟩)⟩)⟩)⟩)⟩)⟩)⟩)⟩)⟩)⟩)⟩)⟩)⟩)⟩)⟩)⟩)⟩)⟩)⟩)⟩)⟩)⟩)⟩)⟩)⟩)⟩)⟩)⟩)
  have inc5 : (L + 1 + 1 + 1 + 1 + 1, o5) ∈ R2 := by rw [hR2]; exact .tail _ (.tail _ (.tail _ (.tail _ (.tail _ (.tail _ (.tail _ (.tail _ (.tail _ (.tail _ (.tail _ (.tail _ (.tail _ (.tail _ (.tail _ (.tail _ (.tail _ (.tail _ (.tail _ (.tail _ (.tail _ (.tail _ (.head _))))))))))))))))))))))
  have offc5 : ∀ p ∈ R6, p.1 ≠ L + 1 + 1 + 1 + 1 + 1 := by
    rw [hR6]
    exact (List.forall_mem_cons.mpr ⟨Ne.symm (o6 _ (inR2 _ inc5)).1, (List.forall_mem_cons.mpr ⟨Ne.symm (o6 _ (inR2 _ inc5)).2.1, (List.forall_mem_cons.mpr ⟨Ne.symm (o6 _ (inR2 _ inc5)).2.2.1, (List.forall_mem_cons.mpr ⟨Ne.symm (o6 _ (inR2 _ inc5)).2.2.2, (List.forall_mem_cons.mpr ⟨Nat.ne_of_gt dlt5, (List.forall_mem_cons.mpr ⟨Ne.symm e51, (List.forall_mem_cons.mpr ⟨Ne.symm x5, (List.forall_mem_cons.mpr ⟨Ne.symm (rlo _ (.tail _ (.tail _ (.tail _ (inc5))))), (List.forall_mem_cons.mpr ⟨Nat.ne_of_gt (Nat.lt_trans (Nat.lt_trans (rwm _ (.tail _ (.tail _ (.tail _ (.tail _ (.tail _ (.tail _ (.tail _ (.tail _ (.tail _ (.tail _ (.tail _ (.tail _ (.tail _ (.tail _ (.head _)))))))))))))))) (ylt.2.2.2.2.2.2.2.2.1)) (ylt.2.2.2.2.2.2.2.2.2)), (List.forall_mem_cons.mpr ⟨Nat.ne_of_gt (Nat.lt_trans (rwm _ (.tail _ (.tail _ (.tail _ (.tail _ (.tail _ (.tail _ (.tail _ (.tail _ (.tail _ (.tail _ (.tail _ (.tail _ (.tail _ (.tail _ (.head _)))))))))))))))) (ylt.2.2.2.2.2.2.2.2.1)), (List.forall_mem_cons.mpr ⟨Nat.ne_of_gt (Nat.lt_trans (Nat.lt_trans (rwm _ (.tail _ (.tail _ (.tail _ (.tail _ (.tail _ (.tail _ (.tail _ (.tail _ (.tail _ (.tail _ (.tail _ (.tail _ (.tail _ (.tail _ (.head _)))))))))))))))) (ylt.2.2.2.2.2.2.1)) (ylt.2.2.2.2.2.2.2.1)), (List.forall_mem_cons.mpr ⟨Nat.ne_of_gt (Nat.lt_trans (rwm _ (.tail _ (.tail _ (.tail _ (.tail _ (.tail _ (.tail _ (.tail _ (.tail _ (.tail _ (.tail _ (.tail _ (.tail _ (.tail _ (.tail _ (.head _)))))))))))))))) (ylt.2.2.2.2.2.2.1)), (List.forall_mem_cons.mpr ⟨Nat.ne_of_gt (Nat.lt_trans (Nat.lt_trans (rwm _ (.tail _ (.tail _ (.tail _ (.tail _ (.tail _ (.tail _ (.tail _ (.tail _ (.tail _ (.tail _ (.tail _ (.tail _ (.tail _ (.tail _ (.head _)))))))))))))))) (ylt.2.2.2.2.1)) (ylt.2.2.2.2.2.1)), (List.forall_mem_cons.mpr ⟨Nat.ne_of_gt (Nat.lt_trans (rwm _ (.tail _ (.tail _ (.tail _ (.tail _ (.tail _ (.tail _ (.tail _ (.tail _ (.tail _ (.tail _ (.tail _ (.tail _ (.tail _ (.tail _ (.head _)))))))))))))))) (ylt.2.2.2.2.1)), (List.forall_mem_cons.mpr ⟨Nat.ne_of_gt (Nat.lt_trans (Nat.lt_trans (rwm _ (.tail _ (.tail _ (.tail _ (.tail _ (.tail _ (.tail _ (.tail _ (.tail _ (.tail _ (.tail _ (.tail _ (.tail _ (.tail _ (.tail _ (.head _)))))))))))))))) (ylt.2.2.1)) (ylt.2.2.2.1)), (List.forall_mem_cons.mpr ⟨Nat.ne_of_gt (Nat.lt_trans (rwm _ (.tail _ (.tail _ (.tail _ (.tail _ (.tail _ (.tail _ (.tail _ (.tail _ (.tail _ (.tail _ (.tail _ (.tail _ (.tail _ (.tail _ (.head _)))))))))))))))) (ylt.2.2.1)), (List.forall_mem_cons.mpr ⟨Nat.ne_of_gt (Nat.lt_trans (Nat.lt_trans (rwm _ (.tail _ (.tail _ (.tail _ (.tail _ (.tail _ (.tail _ (.tail _ (.tail _ (.tail _ (.tail _ (.tail _ (.tail _ (.tail _ (.tail _ (.head _)))))))))))))))) (ylt.1)) (ylt.2.1)), (List.forall_mem_cons.mpr ⟨Nat.ne_of_gt (Nat.lt_trans (rwm _ (.tail _ (.tail _ (.tail _ (.tail _ (.tail _ (.tail _ (.tail _ (.tail _ (.tail _ (.tail _ (.tail _ (.tail _ (.tail _ (.tail _ (.head _)))))))))))))))) (ylt.1)), (List.forall_mem_cons.mpr ⟨Nat.ne_of_gt (rwm _ (.tail _ (.tail _ (.tail _ (.tail _ (.tail _ (.tail _ (.tail _ (.tail _ (.tail _ (.tail _ (.tail _ (.tail _ (.tail _ (.tail _ (.head _)))))))))))))))), (List.forall_mem_cons.mpr ⟨Nat.ne_of_gt (Nat.lt_trans (tdm' _ (.tail _ (.tail _ (.tail _ (.tail _ (.tail _ (.tail _ (.tail _ (.tail _ (.tail _ (.tail _ (.tail _ (.tail _ (.head _)))))))))))))) tbl), (List.forall_mem_cons.mpr ⟨Nat.ne_of_gt (tdm' _ (.tail _ (.tail _ (.tail _ (.tail _ (.tail _ (.tail _ (.tail _ (.tail _ (.tail _ (.tail _ (.tail _ (.tail _ (.head _)))))))))))))), (List.forall_mem_cons.mpr ⟨Ne.symm (off1_mem slo'.2.2.2.2 _ (.tail _ (.tail _ (.tail _ (.tail _ (.tail _ (.tail _ (.tail _ (.head _))))))))), (List.forall_mem_cons.mpr ⟨Ne.symm e52, (List.forall_mem_cons.mpr ⟨Nat.ne_of_gt (ktn_ltOf rl0 _ (.tail _ (.tail _ (.tail _ (.tail _ (.tail _ (.tail _ (.head _)))))))), (List.forall_mem_cons.mpr ⟨Nat.ne_of_gt (ktn_ltOf rl1 _ (.tail _ (.tail _ (.tail _ (.tail _ (.tail _ (.tail _ (.head _)))))))), (List.forall_mem_cons.mpr ⟨Nat.ne_of_gt (ktn_ltOf rl2 _ (.tail _ (.tail _ (.tail _ (.tail _ (.tail _ (.tail _ (.head _)))))))), (List.forall_mem_cons.mpr ⟨Nat.ne_of_gt (ktn_ltOf rl3 _ (.tail _ (.tail _ (.tail _ (.tail _ (.tail _ (.tail _ (.head _)))))))), (List.forall_mem_cons.mpr ⟨Nat.ne_of_gt (ktn_ltOf rl4 _ (.tail _ (.tail _ (.tail _ (.tail _ (.tail _ (.tail _ (.head _)))))))), (fun _ h => nomatch h)⟩)⟩)⟩)⟩)⟩)⟩)⟩)⟩)⟩)⟩)⟩)⟩)⟩)⟩)⟩)⟩)⟩)⟩)⟩)⟩)⟩)⟩)⟩)⟩)⟩)⟩)⟩)⟩)
  have g5 : In5 R6 r0 r1 r2 r3 r4 := by
    rw [hR6]
    exact ⟨.tail _ (.tail _ (.tail _ (.tail _ (.tail _ (.tail _ (.tail _ (.tail _ (.tail _ (.tail _ (.tail _ (.tail _ (.tail _ (.tail _ (.tail _ (.tail _ (.tail _ (.tail _ (.tail _ (.tail _ (.tail _ (.tail _ (.tail _ (.head _))))))))))))))))))))))), .tail _ (.tail _ (.tail _ (.tail _ (.tail _ (.tail _ (.tail _ (.tail _ (.tail _ (.tail _ (.tail _ (.tail _ (.tail _ (.tail _ (.tail _ (.tail _ (.tail _ (.tail _ (.tail _ (.tail _ (.tail _ (.tail _ (.tail _ (.tail _ (.head _)))))))))))))))))))))))), .tail _ (.tail _ (.tail _ (.tail _ (.tail _ (.tail _ (.tail _ (.tail _ (.tail _ (.tail _ (.tail _ (.tail _ (.tail _ (.tail _ (.tail _ (.tail _ (.tail _ (.tail _ (.tail _ (.tail _ (.tail _ (.tail _ (.tail _ (.tail _ (.tail _ (.head _))))))))))))))))))))))))), .tail _ (.tail _ (.tail _ (.tail _ (.tail _ (.tail _ (.tail _ (.tail _ (.tail _ (.tail _ (.tail _ (.tail _ (.tail _ (.tail _ (.tail _ (.tail _ (.tail _ (.tail _ (.tail _ (.tail _ (.tail _ (.tail _ (.tail _ (.tail _ (.tail _ (.tail _ (.head _)))))))))))))))))))))))))), .tail _ (.tail _ (.tail _ (.tail _ (.tail _ (.tail _ (.tail _ (.tail _ (.tail _ (.tail _ (.tail _ (.tail _ (.tail _ (.tail _ (.tail _ (.tail _ (.tail _ (.tail _ (.tail _ (.tail _ (.tail _ (.tail _ (.tail _ (.tail _ (.tail _ (.tail _ (.tail _ (.head _))))))))))))))))))))))))))), rk0, rk1, rk2, rk3, rk4⟩
  have gy : Ys w R6 r0 r1 r2 r3 r4 y0 y1 y2 y3 y4 := by
    rw [hR6]
    exact ⟨.tail _ (.tail _ (.tail _ (.tail _ (.tail _ (.tail _ (.tail _ (.tail _ (.tail _ (.tail _ (.tail _ (.tail _ (.tail _ (.tail _ (.tail _ (.tail _ (.head _)))))))))))))))), .tail _ (.tail _ (.tail _ (.tail _ (.tail _ (.tail _ (.tail _ (.tail _ (.tail _ (.tail _ (.tail _ (.tail _ (.tail _ (.tail _ (.tail _ (.tail _ (.tail _ (.head _))))))))))))))))), .tail _ (.tail _ (.tail _ (.tail _ (.tail _ (.tail _ (.tail _ (.tail _ (.tail _ (.tail _ (.tail _ (.tail _ (.tail _ (.tail _ (.head _)))))))))))))), .tail _ (.tail _ (.tail _ (.tail _ (.tail _ (.tail _ (.tail _ (.tail _ (.tail _ (.tail _ (.tail _ (.tail _ (.tail _ (.tail _ (.tail _ (.head _))))))))))))))), .tail _ (.tail _ (.tail _ (.tail _ (.tail _ (.tail _ (.tail _ (.tail _ (.tail _ (.tail _ (.tail _ (.tail _ (.head _)))))))))))), .tail _ (.tail _ (.tail _ (.tail _ (.tail _ (.tail _ (.tail _ (.tail _ (.tail _ (.tail _ (.tail _ (.tail _ (.tail _ (.head _))))))))))))), .tail _ (.tail _ (.tail _ (.tail _ (.tail _ (.tail _ (.tail _ (.tail _ (.tail _ (.tail _ (.head _)))))))))), .tail _ (.tail _ (.tail _ (.tail _ (.tail _ (.tail _ (.tail _ (.tail _ (.tail _ (.tail _ (.tail _ (.head _))))))))))), .tail _ (.tail _ (.tail _ (.tail _ (.tail _ (.tail _ (.tail _ (.tail _ (.head _)))))))), .tail _ (.tail _ (.tail _ (.tail _ (.tail _ (.tail _ (.tail _ (.tail _ (.tail _ (.head _)))))))))⟩
  have lw : LW w R6 vw vd cds b cvs row e2 w1 w2 w3 tb td rw ro1 (kv5 y0 y1 y2 y3 y4) u1 u2 := by
    rw [hR6]
    exact ⟨.tail _ (.tail _ (.head _)), .tail _ (.tail _ (.tail _ (.head _))), .tail _ (.head _), hcv, hrl, hb0, hb1, .tail _ (.tail _ (.tail _ (.tail _ (.tail _ (.tail _ (.tail _ (.tail _ (.tail _ (.tail _ (.tail _ (.tail _ (.tail _ (.tail _ (.tail _ (.tail _ (.tail _ (.tail _ (.tail _ (.head _))))))))))))))))))), .tail _ (.tail _ (.tail _ (.tail _ (.tail _ (.tail _ (.tail _ (.tail _ (.tail _ (.tail _ (.tail _ (.tail _ (.tail _ (.tail _ (.tail _ (.tail _ (.tail _ (.tail _ (.tail _ (.tail _ (.head _)))))))))))))))))))), .tail _ (.tail _ (.tail _ (.tail _ (.tail _ (.tail _ (.tail _ (.tail _ (.tail _ (.tail _ (.tail _ (.tail _ (.tail _ (.tail _ (.tail _ (.tail _ (.tail _ (.tail _ (.head _)))))))))))))))))), hro1, hlo⟩
  have g61 : (rl, LCg.lst rvs) ∈ R6 := by rw [hR6]; exact .tail _ (.tail _ (.tail _ (.tail _ (.tail _ (.tail _ (.tail _ (.head _)))))))
  have g62 : (mk, LCg.lst (marksOf r0 r1 r2 r3 r4 row)) ∈ R6 := by rw [hR6]; exact .head _
  have g63 : (dk, listOf #[.ref xs, .int (k2 + 1) t3] 0) ∈ R6 := by rw [hR6]; exact .tail _ (.tail _ (.tail _ (.tail _ (.head _))))
  have g64 : (L + 1, p1) ∈ R6 := by rw [hR6]; exact .tail _ (.tail _ (.tail _ (.tail _ (.tail _ (.head _)))))
  have g65 : (xs, LCg.lst ys) ∈ R6 := by rw [hR6]; exact .tail _ (.tail _ (.tail _ (.tail _ (.tail _ (.tail _ (.head _))))))
  have hlr : rvs.length = row.length := hrv.length
  refine wpAny_execs_cons ?_
  refine @stmt6 w mean mg mb fa L cd vw vd cds b cvs row e2 w1 w2 w3 tb td rw ro1 (kv5 y0 y1 y2 y3 y4) u1 u2 (oOf r0 r1 r2 r3 r4 row b) rl mk rvs (marksOf r0 r1 r2 r3 r4 row) tb0 base h₀ _ o3 o4 o5 v3 v4 v5 R6 _ _ B F6 X N6' T c3 c4 c5 (fun p hp => ⟨offc3 p hp, offc4 p hp, offc5 p hp⟩) lw g61 g62 (by rw [hlr]; exact hrl) (by rw [hlr]; exact List.length_map ..) (sg_all g5 hrow b) (sy_all g5 gy hrow b) (law8_all g5 hrow b) (fun p q => markF_ok 49 50 60 true _ _) (fun p q => markF_ok 51 52 62 false _ _) ?n1 ?n2 ?n4 ?n5 ?n6 ?_
  case n1 => rw [if_neg (by decide), if_neg (by decide), if_neg (by decide), if_pos rfl]
  case n2 => rw [if_neg (by decide), if_pos rfl]
  case n4 => rw [if_pos rfl]
  case n5 => rw [if_neg (by decide), if_neg (by decide), if_neg (by decide), if_neg (by decide)]; exact hm3
  case n6 => rw [if_neg (by decide), if_neg (by decide), if_pos rfl]
  intro m7 h7 tk7 F7 N7
  clear N6'
  refine wpAny_execs_cons ?_
  refine @stmt7 w mean mg mb fa L dk xs cd ys ms base h₀ m7 p1 (k2 + 1) t3 R6 _ _ _ B F7 X N7 T g63 g64 g65 hIy hms q1 hxd (by omega) (by omega) ?_
  intro tk8 h8 F8
  exact hret m7 tk8 h8 F8
end
end Mine
section
namespace Mine
theorem anyE {α : Type} {M : Model} {A : Around} {c : Sem α} {Q : α → Shared → Prop} {E : Value → Shared → Prop} {s : Shared} (h : wpAny M A c Q (fun _ _ => False) s) : wpAny M A c Q E s := wpAny_mono h (fun _ _ h => h) fun _ _ e => e.elim
theorem main0.tw10041890833705455956 : True := trivial
theorem main0.tw10110358453462026124 : True := trivial
theorem main0.tw10129584014819180791 : True := trivial
theorem main0.tw10165831620821463176 : True := trivial
theorem main0.tw10166282655740884487 : True := trivial
theorem main0.tw10197028978779071905 : True := trivial
theorem main0.tw10207337506696413639 : True := trivial
theorem main0.tw10260081670654689964 : True := trivial
theorem main0.tw10304514647924268300 : True := trivial
theorem main0.tw10312743323322116071 : True := trivial
theorem main0.tw10325107151533234129 : True := trivial
theorem main0.tw10340443742164131686 : True := trivial
theorem main0.tw10381427381070930878 : True := trivial
theorem main0.tw10391919630269916259 : True := trivial
theorem main0.tw10504967969627209998 : True := trivial
theorem main0.tw1051716439081191287 : True := trivial
theorem main0.tw10548257778738878285 : True := trivial
theorem main0.tw10630416379213790851 : True := trivial
theorem main0.tw1064962844649252244 : True := trivial
theorem main0.tw1065628298308113784 : True := trivial
theorem main0.tw10726761220629864963 : True := trivial
theorem main0.tw10727609601257134121 : True := trivial
theorem main0.tw10751796556523883217 : True := trivial
theorem main0.tw1077346618257306564 : True := trivial
theorem main0.tw10793833365277237949 : True := trivial
theorem main0.tw10846017547432208743 : True := trivial
theorem main0.tw10918419839395577947 : True := trivial
theorem main0.tw10934969016284246402 : True := trivial
theorem main0.tw10978208931764589083 : True := trivial
theorem main0.tw11074594457995023871 : True := trivial
theorem main0.tw11109476124478085400 : True := trivial
theorem main0.tw11125895380374709072 : True := trivial
theorem main0.tw111683004096100209 : True := trivial
theorem main0.tw11193692168117796236 : True := trivial
theorem main0.tw1121391399319236858 : True := trivial
theorem main0.tw11227450763295205402 : True := trivial
theorem main0.tw1124999102452389542 : True := trivial
theorem main0.tw11271660165184453512 : True := trivial
theorem main0.tw11310582517682224130 : True := trivial
theorem main0.tw11340599072569374885 : True := trivial
theorem main0.tw11356291865555643738 : True := trivial
theorem main0.tw11372255635301621314 : True := trivial
theorem main0.tw11394349906401415093 : True := trivial
theorem main0.tw11425178715464548748 : True := trivial
theorem main0.tw11642672693566423731 : True := trivial
theorem main0.tw11709792740593988739 : True := trivial
theorem main0.tw11794109663013703836 : True := trivial
theorem main0.tw11800110991738371864 : True := trivial
theorem main0.tw11816170528462962979 : True := trivial
theorem main0.tw11841147833818680466 : True := trivial
theorem main0.tw11841728545375788306 : True := trivial
theorem main0.tw11852605464310499323 : True := trivial
theorem main0.tw11853809103688264670 : True := trivial
theorem main0.tw11862475946610876761 : True := trivial
theorem main0.tw11903593334028105260 : True := trivial
theorem main0.tw11949510903584859741 : True := trivial
theorem main0.tw11981739067820143862 : True := trivial
theorem main0.tw11985220912886758600 : True := trivial
theorem main0.tw12076903759417875085 : True := trivial
theorem main0.tw12083590604704674683 : True := trivial
theorem main0.tw12103351055164533822 : True := trivial
theorem main0.tw12139926078142804438 : True := trivial
theorem main0.tw12140210027161371648 : True := trivial
theorem main0.tw12252177174127015230 : True := trivial
theorem main0.tw12259778659251871914 : True := trivial
theorem main0.tw12270300714387690781 : True := trivial
theorem main0.tw12273652451329898345 : True := trivial
theorem main0.tw12299157798774350558 : True := trivial
theorem main0.tw12363429033584356445 : True := trivial
theorem main0.tw12371348129335482664 : True := trivial
theorem main0.tw1237306421448137592 : True := trivial
theorem main0.tw12398234223602298864 : True := trivial
theorem main0.tw12509029465943462874 : True := trivial
theorem main0.tw12555869346523586392 : True := trivial
theorem main0.tw12567490101075150109 : True := trivial
theorem main0.tw12604029615902914129 : True := trivial
theorem main0.tw12622554224198872736 : True := trivial
theorem main0.tw12666408764950751440 : True := trivial
theorem main0.tw12751112172277020936 : True := trivial
theorem main0.tw12758347158265615534 : True := trivial
theorem main0.tw12765160285774703669 : True := trivial
theorem main0.tw12782696604236558595 : True := trivial
theorem main0.tw12797304499081180306 : True := trivial
theorem main0.tw1280601775514569193 : True := trivial
theorem main0.tw12915374707216628252 : True := trivial
theorem main0.tw12942699837582656766 : True := trivial
theorem main0.tw12960606926894336673 : True := trivial
theorem main0.tw12993651940554769407 : True := trivial
theorem main0.tw13084462673142578747 : True := trivial
theorem main0.tw13106112741134030362 : True := trivial
theorem main0.tw13230893410648241733 : True := trivial
theorem main0.tw13333190124806221364 : True := trivial
theorem main0.tw13442044377185149111 : True := trivial
theorem main0.tw13561375379988991008 : True := trivial
theorem main0.tw13616232274100184183 : True := trivial
theorem main0.tw13626087748798519497 : True := trivial
theorem main0.tw1362862248104251943 : True := trivial
theorem main0.tw13646682287017201026 : True := trivial
theorem main0.tw13657632111987682489 : True := trivial
theorem main0.tw1368054008382390576 : True := trivial
theorem main0.tw1368659860377138804 : True := trivial
theorem main0.tw13696970510018788471 : True := trivial
theorem main0.tw13723090451159721914 : True := trivial
theorem main0.tw137473852447423077 : True := trivial
theorem main0.tw13766003165239589951 : True := trivial
theorem main0.tw13778854906463502945 : True := trivial
theorem main0.tw13785321261782627598 : True := trivial
theorem main0.tw13836846415954401721 : True := trivial
theorem main0.tw13837052957692073196 : True := trivial
theorem main0.tw13943386031064861633 : True := trivial
theorem main0.tw13945217853508649509 : True := trivial
theorem main0.tw13964384688618812297 : True := trivial
theorem main0.tw13968897337454732001 : True := trivial
theorem main0.tw13984010914595135759 : True := trivial
theorem main0.tw13993546396471380038 : True := trivial
theorem main0.tw14019991281260907886 : True := trivial
theorem main0.tw14020363492686485968 : True := trivial
theorem main0.tw1403408938874506925 : True := trivial
theorem main0.tw14061770972159224442 : True := trivial
theorem main0.tw14102078531854890372 : True := trivial
theorem main0.tw14143003341481992250 : True := trivial
theorem main0.tw14156581073949669787 : True := trivial
theorem main0.tw14168151382006185415 : True := trivial
theorem main0.tw14179553124923688020 : True := trivial
theorem main0.tw14193207500367393364 : True := trivial
theorem main0.tw1423240854308691353 : True := trivial
theorem main0.tw14335801401758618477 : True := trivial
theorem main0.tw14461002335933949379 : True := trivial
theorem main0.tw14494070050724258939 : True := trivial
theorem main0.tw14536103511832298332 : True := trivial
theorem main0.tw14594471543818166337 : True := trivial
theorem main0.tw14604962277815056699 : True := trivial
theorem main0.tw14612492911051473209 : True := trivial
theorem main0.tw14617933974974584824 : True := trivial
theorem main0.tw14631646628193570511 : True := trivial
theorem main0.tw14715201125140076967 : True := trivial
theorem main0.tw14715425554238177767 : True := trivial
theorem main0.tw14793393992561405090 : True := trivial
theorem main0.tw14806394422579599091 : True := trivial
theorem main0.tw14913394213814971363 : True := trivial
theorem main0.tw14926061289831909196 : True := trivial
theorem main0.tw14970470646036387638 : True := trivial
theorem main0.tw14972511838580281088 : True := trivial
theorem main0.tw15000846550595202745 : True := trivial
theorem main0.tw15023763068591504172 : True := trivial
theorem main0.tw15024337342025396063 : True := trivial
theorem main0.tw15086523327311544557 : True := trivial
theorem main0.tw15124265191553847651 : True := trivial
theorem main0.tw1515732621187919609 : True := trivial
theorem main0.tw15216668877291064383 : True := trivial
theorem main0.tw15217713074110241794 : True := trivial
theorem main0.tw15230090309320007255 : True := trivial
theorem main0.tw15261328586676883669 : True := trivial
theorem main0.tw15271236861192441463 : True := trivial
theorem main0.tw15286272317454346944 : True := trivial
theorem main0.tw15307424681766014348 : True := trivial
theorem main0.tw15361662326661063162 : True := trivial
theorem main0.tw15387721011374414141 : True := trivial
theorem main0.tw15407502048356399512 : True := trivial
theorem main0.tw15427845770742394740 : True := trivial
theorem main0.tw15443963920790517805 : True := trivial
theorem main0.tw15444040109772751795 : True := trivial
theorem main0.tw15445762947449553147 : True := trivial
theorem main0.tw15566419383961660730 : True := trivial
theorem main0.tw1560037222546824524 : True := trivial
theorem main0.tw15607641461749146710 : True := trivial
theorem main0.tw15652830349869420622 : True := trivial
theorem main0.tw15663673831725020342 : True := trivial
theorem main0.tw15672116204979339088 : True := trivial
theorem main0.tw15736072090422839047 : True := trivial
theorem main0.tw15791156374508754401 : True := trivial
theorem main0.tw15794180708078303941 : True := trivial
theorem main0.tw15819918739639881296 : True := trivial
theorem main0.tw15853761800147341608 : True := trivial
theorem main0.tw15861733655035129314 : True := trivial
theorem main0.tw15872334417050540070 : True := trivial
theorem main0.tw15896745751510736200 : True := trivial
theorem main0.tw15971279887297951094 : True := trivial
theorem main0.tw15971510834297748543 : True := trivial
theorem main0.tw15975857577521427067 : True := trivial
theorem main0.tw16004346914267449103 : True := trivial
theorem main0.tw16137611395153703879 : True := trivial
theorem main0.tw16167776969503017907 : True := trivial
theorem main0.tw16230098085781120318 : True := trivial
theorem main0.tw16258586568476467568 : True := trivial
theorem main0.tw16290322614887473969 : True := trivial
theorem main0.tw16341716287623908476 : True := trivial
theorem main0.tw16367938024203070446 : True := trivial
theorem main0.tw1651089302022566847 : True := trivial
theorem main0.tw16515630090563924649 : True := trivial
theorem main0.tw16543400563625694991 : True := trivial
theorem main0.tw16560710724309159559 : True := trivial
theorem main0.tw16623725757032259848 : True := trivial
theorem main0.tw16628749203608037722 : True := trivial
theorem main0.tw16631138717030805625 : True := trivial
theorem main0.tw16666666837129206173 : True := trivial
theorem main0.tw167729646224370688 : True := trivial
theorem main0.tw16784965105096302438 : True := trivial
theorem main0.tw16886431633304043972 : True := trivial
theorem main0.tw16932060941076119056 : True := trivial
theorem main0.tw16947737822441882614 : True := trivial
theorem main0.tw16970343549865858836 : True := trivial
theorem main0.tw17002587973443621773 : True := trivial
theorem main0.tw17023014543866323477 : True := trivial
theorem main0.tw17063095568689466545 : True := trivial
theorem main0.tw17073466304633370858 : True := trivial
theorem main0.tw171806991876917158 : True := trivial
theorem main0.tw17222352872134492704 : True := trivial
theorem main0.tw17228857930198246278 : True := trivial
theorem main0.tw17244334410911067619 : True := trivial
theorem main0.tw17284567287357187243 : True := trivial
theorem main0.tw1733496431394958719 : True := trivial
theorem main0.tw17376346394114514056 : True := trivial
theorem main0.tw17428680914498998895 : True := trivial
theorem main0.tw1749286926779410710 : True := trivial
theorem main0.tw1754841652119801422 : True := trivial
theorem main0.tw17680445912194122706 : True := trivial
theorem main0.tw17750218576327173758 : True := trivial
theorem main0.tw1775672422625501704 : True := trivial
theorem main0.tw17854248728635079231 : True := trivial
theorem main0.tw17867351047414603722 : True := trivial
theorem main0.tw17877353147836103160 : True := trivial
theorem main0.tw17907328065635283693 : True := trivial
theorem main0.tw18017904985214105941 : True := trivial
theorem main0.tw18095174051862695384 : True := trivial
theorem main0.tw18160201342368752652 : True := trivial
theorem main0.tw18212352227095482185 : True := trivial
theorem main0.tw18232127053326670060 : True := trivial
theorem main0.tw18270315023692842414 : True := trivial
theorem main0.tw18278069545198821829 : True := trivial
theorem main0.tw18305482064993875731 : True := trivial
theorem main0.tw18382619930586783946 : True := trivial
theorem main0.tw1838492346101219692 : True := trivial
theorem main0.tw18398301606741969878 : True := trivial
theorem main0.tw1890407747831673839 : True := trivial
theorem main0.tw1898123387904826422 : True := trivial
theorem main0.tw192709475814939706 : True := trivial
theorem main0.tw1932256120667917636 : True := trivial
theorem main0.tw1996344647961982729 : True := trivial
theorem main0.tw2117468098687273946 : True := trivial
theorem main0.tw211982620301959720 : True := trivial
theorem main0.tw2149791973086115378 : True := trivial
theorem main0.tw2262464528820750269 : True := trivial
theorem main0.tw2266539944795624697 : True := trivial
theorem main0.tw2301444454072928802 : True := trivial
theorem main0.tw2343530822569413441 : True := trivial
theorem main0.tw2401883335472665410 : True := trivial
theorem main0.tw2571852384317894596 : True := trivial
theorem main0.tw2578800513639548790 : True := trivial
theorem main0.tw2649385322375586060 : True := trivial
theorem main0.tw2656287093784419845 : True := trivial
theorem main0.tw2672071634170054891 : True := trivial
theorem main0.tw2735105314502922172 : True := trivial
theorem main0.tw2736162615868113013 : True := trivial
theorem main0.tw2751083438157636407 : True := trivial
theorem main0.tw2760734056322946743 : True := trivial
theorem main0.tw2801278462192410798 : True := trivial
theorem main0.tw2828085718422743656 : True := trivial
theorem main0.tw2835180836918298002 : True := trivial
theorem main0.tw2924273562655219407 : True := trivial
theorem main0.tw2945771570464958901 : True := trivial
theorem main0.tw2997563242881497408 : True := trivial
theorem main0.tw3003041958397834874 : True := trivial
theorem main0.tw3013053944960670372 : True := trivial
theorem main0.tw3016549858262046039 : True := trivial
theorem main0.tw3142240993965290007 : True := trivial
theorem main0.tw3152759150848989935 : True := trivial
theorem main0.tw3199520556867741322 : True := trivial
theorem main0.tw3272207604039760430 : True := trivial
theorem main0.tw328935240857153152 : True := trivial
theorem main0.tw3296485818554082272 : True := trivial
theorem main0.tw3389203142009013157 : True := trivial
theorem main0.tw3451894503108508029 : True := trivial
theorem main0.tw3511660372620354848 : True := trivial
theorem main0.tw3518546774974107766 : True := trivial
theorem main0.tw3586206175082565774 : True := trivial
theorem main0.tw3611700896350618909 : True := trivial
theorem main0.tw3754437134930816902 : True := trivial
theorem main0.tw3786549456717194506 : True := trivial
theorem main0.tw384520129315276467 : True := trivial
theorem main0.tw384793666987933156 : True := trivial
theorem main0.tw3855769163082054623 : True := trivial
theorem main0.tw3892031076101543646 : True := trivial
theorem main0.tw393799298574055731 : True := trivial
theorem main0.tw3982592750326049029 : True := trivial
theorem main0.tw4033854532193474019 : True := trivial
theorem main0.tw4034451414391067547 : True := trivial
theorem main0.tw4037353608758256826 : True := trivial
theorem main0.tw4108856278967966539 : True := trivial
theorem main0.tw4160527898736317075 : True := trivial
theorem main0.tw4259738108632994910 : True := trivial
theorem main0.tw4427936496150101822 : True := trivial
theorem main0.tw4633207394084338982 : True := trivial
theorem main0.tw4640491215652562771 : True := trivial
theorem main0.tw4674512881308453375 : True := trivial
theorem main0.tw4688740841033876353 : True := trivial
theorem main0.tw4719855800305017504 : True := trivial
theorem main0.tw4720097863056709876 : True := trivial
theorem main0.tw4739755361056039480 : True := trivial
theorem main0.tw4771024927365777611 : True := trivial
theorem main0.tw4787027860568113628 : True := trivial
theorem main0.tw4790764923699880123 : True := trivial
theorem main0.tw4882160111202746353 : True := trivial
theorem main0.tw4896433428989885002 : True := trivial
theorem main0.tw495847833838682276 : True := trivial
theorem main0.tw5012444644529457043 : True := trivial
theorem main0.tw501390656010824634 : True := trivial
theorem main0.tw5027383644219341680 : True := trivial
theorem main0.tw5058468120330269555 : True := trivial
theorem main0.tw5064905965391228059 : True := trivial
theorem main0.tw50808497341037863 : True := trivial
theorem main0.tw5104018745232106972 : True := trivial
theorem main0.tw5381245017668878472 : True := trivial
theorem main0.tw5408103683502477759 : True := trivial
theorem main0.tw5479530890962200481 : True := trivial
theorem main0.tw548303016236078489 : True := trivial
theorem main0.tw5511058710194991619 : True := trivial
theorem main0.tw5524227001859266767 : True := trivial
theorem main0.tw5541717576720946540 : True := trivial
theorem main0.tw5545643461252613123 : True := trivial
theorem main0.tw5587609702770498024 : True := trivial
theorem main0.tw5606251008328635234 : True := trivial
theorem main0.tw5691447096674953235 : True := trivial
theorem main0.tw5810029727855923307 : True := trivial
theorem main0.tw5812127425565556834 : True := trivial
theorem main0.tw5825482897459668394 : True := trivial
theorem main0.tw5871233233202238964 : True := trivial
theorem main0.tw5876616057201222958 : True := trivial
theorem main0.tw5949674771178356234 : True := trivial
theorem main0.tw5954179455850918022 : True := trivial
theorem main0.tw601103667978358661 : True := trivial
theorem main0.tw6055894049431612311 : True := trivial
theorem main0.tw607087683000068524 : True := trivial
theorem main0.tw6073865572973484387 : True := trivial
theorem main0.tw6118274261292373821 : True := trivial
theorem main0.tw6134734428010290464 : True := trivial
theorem main0.tw6187271277996479000 : True := trivial
theorem main0.tw622098558361918874 : True := trivial
theorem main0.tw6257531209372703060 : True := trivial
theorem main0.tw6286160461243734327 : True := trivial
theorem main0.tw6293787813126403818 : True := trivial
theorem main0.tw6397826463923782821 : True := trivial
theorem main0.tw64977728492822696 : True := trivial
theorem main0.tw6517670867528886380 : True := trivial
theorem main0.tw661268040389861927 : True := trivial
theorem main0.tw6617690360205745327 : True := trivial
theorem main0.tw663268075982244158 : True := trivial
theorem main0.tw6682688934841799037 : True := trivial
theorem main0.tw6716394979354112544 : True := trivial
theorem main0.tw6814674344156624 : True := trivial
theorem main0.tw6898850460184317252 : True := trivial
theorem main0.tw6988595886907701687 : True := trivial
theorem main0.tw7001662765817091496 : True := trivial
theorem main0.tw7033605256149838434 : True := trivial
theorem main0.tw7058548191782821147 : True := trivial
theorem main0.tw7081850123672882755 : True := trivial
theorem main0.tw7124414078327284033 : True := trivial
theorem main0.tw7182782161595581474 : True := trivial
theorem main0.tw7185152111322793966 : True := trivial
theorem main0.tw7202919505543136287 : True := trivial
theorem main0.tw7212334920667789951 : True := trivial
theorem main0.tw7227099023876753125 : True := trivial
theorem main0.tw7236135378317177076 : True := trivial
theorem main0.tw7241936474045890855 : True := trivial
theorem main0.tw7248274860421651355 : True := trivial
theorem main0.tw7484162278083326211 : True := trivial
theorem main0.tw7491875134161755554 : True := trivial
theorem main0.tw7505870900987266399 : True := trivial
theorem main0.tw7510722761622265213 : True := trivial
theorem main0.tw7556089686928161559 : True := trivial
theorem main0.tw7558045123626633146 : True := trivial
theorem main0.tw7613882802175530607 : True := trivial
theorem main0.tw7644518606112678914 : True := trivial
theorem main0.tw7721336146527844790 : True := trivial
theorem main0.tw7767764621938878469 : True := trivial
theorem main0.tw7871253555502969974 : True := trivial
theorem main0.tw7921188435842837221 : True := trivial
theorem main0.tw7973406005809155689 : True := trivial
theorem main0.tw8032433984002319153 : True := trivial
theorem main0.tw8139281449314948944 : True := trivial
theorem main0.tw8178005525131709081 : True := trivial
theorem main0.tw8200263128469302176 : True := trivial
theorem main0.tw8214949956536436510 : True := trivial
theorem main0.tw8218561441394731019 : True := trivial
theorem main0.tw8414727688367670274 : True := trivial
theorem main0.tw848074125109309935 : True := trivial
theorem main0.tw8497178078348017436 : True := trivial
theorem main0.tw8501206448973080858 : True := trivial
theorem main0.tw8522573478906034846 : True := trivial
theorem main0.tw8596527179904643375 : True := trivial
theorem main0.tw8602061715982946429 : True := trivial
theorem main0.tw8617440236496946034 : True := trivial
theorem main0.tw8634839708651609717 : True := trivial
theorem main0.tw8719592463769063279 : True := trivial
theorem main0.tw8880709322332937400 : True := trivial
theorem main0.tw8908541431451377890 : True := trivial
theorem main0.tw8926850500134024579 : True := trivial
theorem main0.tw8995725673282312398 : True := trivial
theorem main0.tw9003105343687765647 : True := trivial
theorem main0.tw9019437763125029065 : True := trivial
theorem main0.tw9109168011299325983 : True := trivial
theorem main0.tw9113235872487706152 : True := trivial
theorem main0.tw915779376086048949 : True := trivial
theorem main0.tw9202073925060488454 : True := trivial
theorem main0.tw9212492767663792762 : True := trivial
theorem main0.tw9230555000093975401 : True := trivial
theorem main0.tw9251854865908443362 : True := trivial
theorem main0.tw9261459812685502007 : True := trivial
theorem main0.tw9457193281603973569 : True := trivial
theorem main0.tw9477918484232742776 : True := trivial
theorem main0.tw9495699745626179242 : True := trivial
theorem main0.tw9592514645094060242 : True := trivial
theorem main0.tw9630469549225287603 : True := trivial
theorem main0.tw9632247023022867446 : True := trivial
theorem main0.tw966669748950749857 : True := trivial
theorem main0.tw9669882751014867942 : True := trivial
theorem main0.tw9709521576607736801 : True := trivial
theorem main0.tw9740610319240426177 : True := trivial
theorem main0.tw9753990271908063971 : True := trivial
theorem main0.tw976548228141226692 : True := trivial
theorem main0.tw9830904167653405413 : True := trivial
theorem main0.tw984610483396353615 : True := trivial
theorem main0.tw9875885036624509632 : True := trivial
theorem main0.tw9892150491899916442 : True := trivial
theorem main0.tw9949988826615562632 : True := trivial
theorem main0.tw9957198973639661648 : True := trivial
theorem main0.tw9976943484464326222 : True := trivial
theorem main0.tw9986440786279740078 : True := trivial
theorem main0.tw9990879848100037011 : True := trivial
theorem main0.tw999873514924807515 : True := trivial
set_option Elab.async true in
set_option maxRecDepth 100000 in
set_option maxHeartbeats 8000000 in
theorem main0 : PySem.Challenge.rw_ok0055_01.Holds := by
  w_on
  o_law
  k_head
  (case hw => w_witness2)
  w_strict (
    k_go0
    (all_goals try k_fold)
    rename Below _ _ _ _ => iB
    rename Fr _ _ _ _ => iF
    rename Frag.In _ _ => iX
    rename News _ _ _ _ => iN
    rename Top _ _ _ _ _ _ => iT
    rename IntsAre _ _ => iI
    rename Heap.IsList _ _ _ => iL
    rename ¬ _ < _ => iC
    refine anyE (law_body _ _ _ _ _ _ _ _ _ _ _ _ _ _ _ _ _ _ ?v1 ?v2 ?v3 ?v4 ?v5 _ _ iB iF iX iN iT ?hm iL iI ?hn ?c1 ?c2 ?c3 ?c4 ?c5 ?hret)
    case c1 => assumption
    case c2 => assumption
    case c3 => assumption
    case c4 => assumption
    case c5 => assumption
    case hm => exact rfl
    case hn => omega
    intro m9 t9 h9 F9
    k_steps
    all_goals (try k_data))
end Mine
end
theorem PySem.Challenge.cw_ok0055_01_holds : PySem.Challenge.rw_ok0055_01.Holds := by
  exact Mine.main0
