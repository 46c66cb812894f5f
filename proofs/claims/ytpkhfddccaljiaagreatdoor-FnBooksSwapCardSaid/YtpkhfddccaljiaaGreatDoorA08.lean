/-
A part of the proof: pure functions told of the program, and laws about them.
-/
import Derived.Test.YtpkhfddccaljiaaGreatDoorA07
import Derived.Test.YtpkhfddccaljiaaGreatDoorProg
import Derived.Laws.StructEq
set_option linter.all false
section
set_option maxRecDepth 100000
namespace Ab
open Go Go.Proofs
theorem vT : FK 221 (cA Z22 .nil) (.sc .bool) nZ :=
 of8 [(4, ⟨[], [1, 3], (cP Z22 (cI .nil))⟩)] Tryz.func221 (eC eG (eC jE (eC aQj (eC aL6 (eC zN (eC aTx eN))))))
theorem aCk : FK 256 (cL fU (cI .nil)) (.sc (.int .i64)) qB :=
 of8 [(2, ⟨[1, 0], [5], (cI .nil)⟩)] Tryz.func256 eN
theorem aL7 : FK 292 (cL bS (cI .nil)) (.own 73 bS) qP :=
 of8 [(3, ⟨[1, 0], [5, 6], (cO 73 bS (cI .nil))⟩)] Tryz.func292 (eC vS eN)
theorem aGq : FK 288 (cA Z22 .nil) (.tup (cO 3 (.int .i64) (cO 73 bS .nil))) xG :=
 of8 [(5, ⟨[], [1, 4, 5, 6, 7], Z98⟩), (9, ⟨[], [6, 5, 1, 8], Z99⟩), (23, ⟨[], [5, 6, 10, 11], bLt⟩), (3000013, ⟨[8], [1, 5, 6, 9], bLs⟩)] Tryz.func288 (eC aAf (eC tF (eC lG (eC aL7 eN))))
theorem aIn : FK 267 bLr (.sc .bool) aAw :=
 of8 [(3, ⟨[2, 1], [7, 9], (cO 3 (.int .i64) (cI .nil))⟩)] Tryz.func267 (eC sH (eC aGq eN))
theorem qW : FK 230 bLq (.agg Z19) mO :=
 of8 [] Tryz.func230 eN
theorem aEq : FK 260 (cA Z22 (cA Z91 .nil)) (.agg Z19) qC :=
 of8 [] Tryz.func260 (eC qW (eC aIn eN))
theorem aTy : FK 262 bLo (.agg bIl) aFp :=
 of8 [(3, ⟨[2, 1], [3, 6, 7, 8], bLp⟩)] Tryz.func262 eN
theorem aDe : FK 262 bJd (.agg Z3) iK :=
 of8 [(3, ⟨[2, 1], [3, 6, 7, 8], bLn⟩)] Tryz.func262 eN
theorem aDf : FK 286 bLm (.own 307 gQ) kH :=
 of8 [(3, ⟨[2, 1, 0], [7, 8], (cO 307 gQ (cI .nil))⟩)] Tryz.func286 eN
theorem aLe : FK 287 (cA Z20 (cA Z95 .nil)) (.sc .bool) aEb :=
 of8 [(2, ⟨[], [2, 3, 5], bLl⟩), (7, ⟨[], [3, 2, 6], bLk⟩)] Tryz.func287 (eC aCn eN)
theorem aEr : FK 229 (cL gQ (cA Z95 .nil)) (.own 307 gQ) xJ :=
 of8 [(4, ⟨[0], [3, 5, 6, 7], bLj⟩), (3000009, ⟨[0, 7], [3, 5, 6], bLi⟩)] Tryz.func229 eN
theorem aQl : FK 285 bJb (.tup (cA bJc (cO 307 gQ .nil))) aB4 :=
 of8 [(9, ⟨[], [6, 8, 9, 10, 11], bLh⟩)] Tryz.func285 (eC vR (eC aEr (eC zN (eC aDf (eC aLe eN)))))
theorem aIm : FK 261 bJd (.tup (cA Z3 (cO 275 dQ .nil))) kZ :=
 of8 [(4, ⟨[2, 1], [3, 6, 8, 9, 10], bLg⟩), (8, ⟨[1], [9, 8, 6, 3, 11], bLf⟩)] Tryz.func261 (eC qX (eC sZ (eC aEq (eC aQl eN))))
theorem aL8 : FK 263 (cL fU (cA Z91 .nil)) (.own 289 fU) vI :=
 of8 [(4, ⟨[0], [3, 5, 6, 7], bLe⟩), (3000009, ⟨[0, 7], [3, 5, 6], bLd⟩)] Tryz.func263 eN
theorem aT0 : FK 264 (cA Z20 (cA Z95 .nil)) (.tup bK9) aAz :=
 of8 [(18, ⟨[], [2, 3, 4, 7, 8, 11, 12, 13], bLc⟩), (3000009, ⟨[9], [2, 3, 4, 7, 8, 57], bJa⟩), (3000010, ⟨[], [2, 3, 4, 7, 8], bI9⟩), (3000012, ⟨[], [2, 3, 4, 7, 8, 84], bJa⟩), (3000013, ⟨[], [2, 3, 4, 7, 8], bI9⟩), (3000019, ⟨[13], [2, 3, 4, 7, 8, 11, 12], bLb⟩), (3000022, ⟨[13], [2, 3, 4, 7, 8, 11, 12, 14, 131], bLa⟩)] Tryz.func264 (eC vR (eC aEr (eC zN (eC aEs (eC aCn (eC aG8 (eC aDf (eC aLe eN))))))))
theorem aTw : FK 222 (cA Z3 (cA Z18 .nil)) (.tup (cA Z3 (cO 275 dQ .nil))) aFo :=
 of8 [(14, ⟨[], [2, 4, 8, 6, 9, 10], bK8⟩), (20, ⟨[], [9, 6, 8, 4, 2, 14], bK7⟩), (3000004, ⟨[7], [2, 3, 4, 6, 67], bI8⟩), (3000005, ⟨[7], [2, 3, 4, 6], bK6⟩), (3000006, ⟨[7], [2, 3, 4, 6, 82], bI8⟩), (3000009, ⟨[], [2, 3, 4], (cP Z3 (cP Z18 (cP Z3 .nil)))⟩), (3000010, ⟨[], [2, 3, 4, 8], bK5⟩), (3000024, ⟨[14], [2, 4, 6, 8, 9, 15, 16], bK3⟩)] Tryz.func222 (eC qW (eC aCk (eC aCl (eC lG (eC sZ (eC aEq (eC aIm (eC aDe (eC aL8 (eC aT0 eN))))))))))
theorem aOc : FK 269 Z94 (.own 73 bS) aH9 :=
 of8 [(3, ⟨[1, 0], [5, 6], (cO 73 bS (cI .nil))⟩)] Tryz.func269 (eC sH (eC vS eN))
theorem aWb : FK 266 bK2 (.agg Z19) aEa :=
 of8 [] Tryz.func266 (eC qW (eC aOc (eC aGq eN)))
theorem aQm : FK 268 bJb (.tup (cA Z21 (cB .nil))) aB5 :=
 of8 [] Tryz.func268 (eC vR (eC zN (eC aG8 eN)))
theorem aL9 : FK 223 (cA Z3 (cA Z18 .nil)) (.tup (cA bIl (cO 275 dQ .nil))) vJ :=
 of8 [(14, ⟨[], [2, 4, 9, 10], bK1⟩)] Tryz.func223 (eC vQ (eC qW (eC aCk (eC lG (eC sZ (eC aTy (eC tC (eC aWb (eC aIn (eC aQm eN))))))))))
theorem aWc : FK 224 (cA Z3 (cA Z18 .nil)) (.tup (cA Z3 (cO 275 dQ .nil))) aIa :=
 of8 [] Tryz.func224 (eC aCk (eC lG (eC aIm (eC aDe (eC tC (eC aOc eN))))))
theorem aOi : FK 203 (cA Z22 (cA Z18 .nil)) (.tup (cA Z3 (cL dQ .nil))) zC :=
 of8 [(3000015, ⟨[], [2, 4, 6, 7, 8], bK0⟩)] Tryz.func203 (eC aAe (eC qX (eC aLf (eC vT (eC aTw (eC aL9 (eC aWc eN)))))))
theorem aN3 : FK 204 (cA Z4 (cA Z18 .nil)) (.agg Z4) yP :=
 of8 [] Tryz.func204 (eC zL eN)
theorem aQa : FK 189 (cA Z4 (cA Z30 .nil)) (.tup (cA Z4 (cB .nil))) wZ :=
 of8 [(3000005, ⟨[], [2, 3, 4, 6, 30], bKz⟩), (3000006, ⟨[], [2, 3, 4, 6], bKy⟩)] Tryz.func189 (eC eG (eC jE (eC vN (eC aQp (eC aOi (eC aN3 eN))))))
theorem aQo : FK 205 (cA Z13 .nil) (.agg Z1) aB7 :=
 of8 [] Tryz.func205 (eC uF (eC vP eN))
theorem aQq : FK 206 (cA Z13 .nil) (.agg Z1) aB9 :=
 of8 [] Tryz.func206 (eC uF (eC vP eN))
theorem aQn : FK 207 (cA Z13 .nil) (.own 275 dQ) aB6 :=
 of8 [(5, ⟨[], [1, 3, 4], bKx⟩), (10, ⟨[4], [3, 1, 5, 6, 7], bKw⟩), (14, ⟨[4, 7], [6, 5, 1, 3, 8, 9], bKv⟩), (3000011, ⟨[4, 7], [1, 3, 5, 6], bI6⟩), (3000018, ⟨[7, 4, 8], [1, 3, 5, 6, 75], bKu⟩), (3000019, ⟨[7, 4, 8], [1, 3, 5, 6], bI6⟩)] Tryz.func207 (eC uF (eC aCg (eC sH (eC aIl eN))))
theorem aTq : FK 190 (cA Z4 (cA Z30 .nil)) (.tup (cA bIk (cB .nil))) aFj :=
 of8 [] Tryz.func190 (eC vN (eC aQo (eC aQq (eC aQn eN))))
theorem aOh : FK 208 (cA Z22 .nil) (.agg Z3) zA :=
 of8 [(9, ⟨[], [1, 2, 3, 4, 5], bKt⟩), (12, ⟨[5], [4, 3, 2, 1, 6], bKs⟩)] Tryz.func208 (eC qX (eC vT (eC vQ (eC aEr eN))))
theorem aOj : FK 209 (cA Z22 (cI .nil)) (.agg Z3) zD :=
 of8 [(3000009, ⟨[], [4, 5, 6], bKr⟩)] Tryz.func209 (eC aGp (eC qX (eC vT eN)))
theorem aOg : FK 210 (cA Z22 .nil) (.own 275 dQ) yZ :=
 of8 [(6, ⟨[], [1, 3, 4, 5], bKq⟩), (10, ⟨[], [3, 1, 6], bKp⟩)] Tryz.func210 (eC vT (eC vQ (eC qW eN)))
theorem aQb : FK 191 (cA Z4 (cA Z30 .nil)) (.tup (cA Z4 (cB .nil))) aBs :=
 of8 [] Tryz.func191 (eC vN (eC aOh (eC aOj (eC aOg eN))))
theorem aZi : FK 172 (cA Z4 (cA Z30 .nil)) (.tup (cA bIk (cB .nil))) aFk :=
 of8 [] Tryz.func172 (eC eG (eC jE (eC aN1 (eC aQa (eC aTq (eC aQb eN))))))
theorem jW : FnOK Tryz.prog 138 ⟨bKn, (.sc .bool), dJ, [(0, 0)]⟩ :=
 of8 [(3000002, ⟨[], [0, 3, 5, 6, 1000000, 1000001], bKo⟩)] Tryz.func138 (eC aZi (eC aTr eN))
theorem mX : FnOK Tryz.prog 135 ⟨bG8, (.tup .nil), iO, [(0, 0)]⟩ :=
 of8 [] Tryz.func135 (eC aA1 (eC jW (eC zL eN)))
theorem pM : FnOK Tryz.prog 136 ⟨bKl, (.tup .nil), dY, [(0, 0)]⟩ :=
 of8 [(1, ⟨[2, 1], [0, 1000001, 1000000, 6], bFm⟩), (3000011, ⟨[1, 2, 6], [0, 7, 1000000, 1000001], bKm⟩)] Tryz.func136 (eC dN (eC jW eN))
theorem sG : FnOK Tryz.prog 142 ⟨bG8, (.tup .nil), mJ, [(0, 0)]⟩ :=
 of8 [(1, ⟨[1], [0, 1000001, 1000000, 4], bFm⟩)] Tryz.func142 (eC dN (eC jW eN))
theorem aJ8 : FnOK Tryz.prog 137 ⟨(cP Z0 (cP Z11 .nil)), (.tup .nil), mK, [(0, 0)]⟩ :=
 of8 [(1, ⟨[], [0, 1000001, 1000000, 2], bFm⟩)] Tryz.func137 (eC dN (eC mX (eC sG eN)))
theorem xO : FnOK Tryz.prog 139 ⟨(cP Z0 (cP Z11 .nil)), (.sc (.int .i64)), eT, [(0, 0)]⟩ :=
 of8 [] Tryz.func139 (eC dN eN)
theorem aJ7 : FnOK Tryz.prog 140 ⟨(cP Z0 (cP Z11 .nil)), (.tup .nil), sP, [(0, 0)]⟩ :=
 of8 [] Tryz.func140 (eC dN (eC mX (eC pM (eC jW (eC xO (eC sG eN))))))
theorem aIj : FnOK Tryz.prog 141 ⟨(cP Z0 (cP Z11 .nil)), (.tup .nil), qN, [(0, 0)]⟩ :=
 of8 [(6, ⟨[2, 3], [0, 1000001, 1000000, 4], bFm⟩), (10, ⟨[3, 2], [1000000, 1000001, 0, 5], bKk⟩), (20, ⟨[7], [0, 1000001, 1000000, 8], bFm⟩), (3000013, ⟨[2], [0, 1000000, 1000001], bI5⟩), (3000017, ⟨[2], [0, 1000000, 1000001], bI5⟩)] Tryz.func141 (eC dN (eC mX (eC pM (eC jW eN))))
theorem aIi : FnOK Tryz.prog 118 ⟨bG8, (.tup .nil), qM, [(0, 0)]⟩ :=
 of8 [(3000006, ⟨[1, 8], [0, 16, 1000000, 1000001], bKj⟩), (1000021, ⟨[6], [], .dead⟩)] Tryz.func118 (eC dN (eC mX (eC pM (eC aJ8 (eC jW (eC xO (eC aJ7 (eC aIj (eC sG eN)))))))))
theorem aTp : FK 92 (cP Z0 (cI .nil)) (.ptr Z11) aFh :=
 of8 [(4, ⟨[6], [1000000, 5, 7], bG8⟩)] Tryz.func92 (eC dN (eC aEt (eC aIi eN)))
theorem aQh : FK 117 (cL gN .nil) (.own 31 yC) aBw :=
 of8 [(3, ⟨[0], [3, 4], (cO 31 yC (cI .nil))⟩)] Tryz.func117 eN
theorem aOl : FK 91 (cA Z13 .nil) (.own 31 yC) zG :=
 of8 [] Tryz.func91 (eC uF (eC aQh eN))
theorem aDg : FK 51 .nil (.agg aBf) lW :=
 of8 [] Tryz.func51 (eC tF eN)
theorem aLa : FK 55 (cP Z0 .nil) (.ptr bKi) aD7 :=
 of8 [] Tryz.func55 (eC aEt eN)
theorem aP9 : FK 57 (cP Z0 (cL .str .nil)) (.sc .str) aBr :=
 of8 [] Tryz.func57 (eC dN eN)
theorem aIh : FK 20 (cP Z0 .nil) (.agg Z12) aAp :=
 of8 [(3000017, ⟨[], [2, 3, 1000000], bKh⟩)] Tryz.func20 (eC dN (eC aLa (eC aA1 (eC aP9 eN))))
theorem aEn : FK 23 (cL fU (cI .nil)) (.agg Z91) tV :=
 of8 [(2, ⟨[1, 0], [4, 5], (cP bI7 (cI .nil))⟩)] Tryz.func23 eN
theorem aN5 : FK 44 (cL bS .nil) (.sc .bool) pY :=
 of8 [(2, ⟨[0], [3], (cI .nil)⟩)] Tryz.func44 (eC lY eN)
theorem aQc : FK 45 (cL fU .nil) (.sc .bool) rP :=
 of8 [(2, ⟨[0], [3], (cI .nil)⟩)] Tryz.func45 (eC eG (eC zM eN))
theorem aIq : FK 11 (cA aPc .nil) (.sc .bool) rY :=
 of8 [] Tryz.func11 (eC eG (eC aOf (eC aN5 (eC aQc eN))))
theorem aV8 : FK 24 (cA aPc .nil) (.agg aBf) aAt :=
 of8 [(3, ⟨[], [1, 2, 3, 4], bKg⟩), (3000002, ⟨[], [1, 2, 3], bKf⟩)] Tryz.func24 (eC aLb eN)
theorem aV6 : FK 29 (cL fU (cA Z91 .nil)) (.own 37 fU) xB :=
 of8 [(4, ⟨[0], [3, 5, 6, 7], bKe⟩), (3000009, ⟨[0, 7], [3, 5, 6], bKd⟩)] Tryz.func29 eN
theorem vU : FK 7 (cA aPc (cA Z12 .nil)) (.agg aBf) lC :=
 of8 [] Tryz.func7 (eC aIq (eC qG (eC aEn (eC aV8 (eC qY (eC tH (eC aIp (eC aAf (eC aV6 eN)))))))))
theorem aGn : FK 46 (cP Z0 (cI .nil)) (.own 31 yC) wY :=
 of8 [(6, ⟨[], [0, 1000000, 5, 6, 7], bKc⟩)] Tryz.func46 (eC vU (eC aIh (eC dN (eC eG (eC aEn (eC aDg (eC aOl (eC aTp eN))))))))
theorem aIr : FK 15 (cL yC .nil) (.agg aBf) rZ :=
 of8 [(5, ⟨[0], [2, 3, 4], bI4⟩)] Tryz.func15 (eC vU (eC aDg eN))
theorem aV5 : FK 54 (cP Z0 .nil) (.agg Z46) aH7 :=
 of8 [(3, ⟨[], [0, 1000000, 2, 3, 4], bKb⟩)] Tryz.func54 (eC dN (eC qY (eC tF eN)))
theorem aP8 : FK 19 (cP Z0 .nil) (.agg bIj) aBq :=
 of8 [] Tryz.func19 (eC aIr (eC dN (eC aGn (eC aV5 eN))))
end Ab
end
noncomputable section
set_option maxRecDepth 100000
namespace Ab
open Go Go.Proofs
theorem aA2 : FK 6 (cL (.int .u8) .nil) (.tup (cA bIj (cA Z12 .nil))) oU :=
 of8 [] Tryz.func6 (eC aEm (eC aP8 (eC aIh (eC dN (eC eG (eC aEn eN))))))
theorem iQ : FK 65 Z2 (.sc .bool) kJ :=
 of8 [] Tryz.func65 eN
theorem aCr : FK 77 (cI .nil) (.sc .bool) sJ :=
 of8 [] Tryz.func77 (eC iQ eN)
theorem aOp : FK 66 (cA Z46 .nil) (.sc .bool) aI7 :=
 of8 [(4, ⟨[16, 17], [18], (cI .nil)⟩)] Tryz.func66 (eC iQ (eC aCr eN))
theorem aOo : FK 109 (cI .nil) (.sc .bool) aI5 :=
 of8 [] Tryz.func109 (eC iQ eN)
theorem aCq : FK 110 (cI .nil) (.sc .bool) zR :=
 of8 [] Tryz.func110 (eC iQ eN)
theorem aIt : FK 83 (cL bS .nil) (.sc .bool) aA7 :=
 of8 [(4, ⟨[0, 8, 9], [10], (cI .nil)⟩)] Tryz.func83 (eC aOo (eC aCq eN))
theorem aOm : FK 98 bG7 (.sc .bool) zP :=
 of8 [] Tryz.func98 eN
theorem uD : FK 121 (cL bS (.cons (.fn 98 .nil) .nil)) (.sc (.int .i64)) gT :=
 of8 [(2, ⟨[0, 7], [1, 8], (.cons (.fn 98 .nil) (cI .nil))⟩)] Tryz.func121 (eC aOm eN)
theorem qV : FK 97 (cL bS (.cons (.fn 98 .nil) .nil)) (.sc .bool) gD :=
 of8 [] Tryz.func97 (eC uD eN)
theorem aT1 : FK 67 (cL bS .nil) (.sc .bool) aFz :=
 of8 [] Tryz.func67 (eC aIt (eC qV eN))
theorem aEv : FK 75 (cI .nil) (.sc .bool) uJ :=
 of8 [] Tryz.func75 (eC iQ eN)
theorem aWg : FK 99 (cI .nil) (.sc .bool) aI6 :=
 of8 [] Tryz.func99 (eC iQ eN)
theorem aWd : FK 100 (cL (.int .i64) .nil) (.sc .bool) aI2 :=
 of8 [(2, ⟨[0, 5, 6], [7], (cI .nil)⟩)] Tryz.func100 (eC aCq eN)
theorem aWf : FK 68 (cA Z91 .nil) (.sc .bool) aI4 :=
 of8 [] Tryz.func68 (eC iQ (eC aEv (eC aWg (eC aWd eN))))
theorem aT4 : FK 30 (cA aPc .nil) (.sc .bool) aF2 :=
 of8 [(4, ⟨[22, 23], [1, 24], (cP aPc (cI .nil))⟩)] Tryz.func30 (eC iQ (eC aOp (eC aT1 (eC aWf eN))))
theorem oI : FK 69 (cL (.int .i64) .nil) (.own 3 (.int .i64)) slices_Clone_int :=
 of8 [] Tryz.func69 eN
theorem yE : FK 70 (cL bS .nil) (.own 73 bS) jD :=
 of8 [] Tryz.func70 eN
theorem yD : FK 71 (cL fU .nil) (.own 37 fU) jC :=
 of8 [] Tryz.func71 eN
theorem aMd : FK 31 (cA aPc .nil) (.agg aBf) vY :=
 of8 [(5, ⟨[20], [1, 2, 21], bI4⟩)] Tryz.func31 (eC oI (eC yE (eC yD eN)))
theorem aKd : FK 101 (cI .nil) (.sc .bool) cmp_isNaN_int :=
 of8 [] Tryz.func101 eN
theorem aHb : FK 74 (cI (cI .nil)) (.sc (.int .i64)) cmp_Compare_int :=
 of8 [] Tryz.func74 (eC aKd eN)
theorem aKb : FK 73 (cA Z91 (cI .nil)) (.sc (.int .i64)) oW :=
 of8 [] Tryz.func73 (eC aHb eN)
theorem oJ : FK 72 bJ9 (.tup (cI (cB .nil))) fE :=
 of8 [(3, ⟨[1, 0, 8], [2, 9, 10], bKa⟩)] Tryz.func72 (eC aKb eN)
theorem aOn : FK 32 (cL fU (cI .nil)) (.tup (cI (cB .nil))) zQ :=
 of8 [] Tryz.func32 (eC oJ eN)
theorem aCf : FK 104 (cL .str (cS .nil)) (.sc (.int .i64)) slices_Index_string :=
 of8 [(2, ⟨[1, 0, 7], [8], (cI .nil)⟩)] Tryz.func104 eN
theorem aG9 : FK 79 (cS .nil) (.tup (cA Z2 (cB .nil))) iZ :=
 of8 [(3000006, ⟨[4, 5], [2, 6], (cP Z2 (cI .nil))⟩)] Tryz.func79 (eC aJ6 (eC aCf (eC aL3 eN)))
theorem aWe : FK 108 (cA Z2 .nil) (.tup bJ8) aI3 :=
 of8 [] Tryz.func108 (eC aOo (eC aCq eN))
theorem aCo : FK 82 (cL bZ .nil) (.tup bJ6) wO :=
 of8 [(5, ⟨[16, 17], [4, 18], bJ7⟩)] Tryz.func82 (eC iQ (eC aWe eN))
theorem aWh : FK 80 (cL bZ .nil) (.sc .bool) aI8 :=
 of8 [] Tryz.func80 (eC aCo eN)
theorem aIv : FK 309 (cA (cI .nil) .nil) (.sc .str) lJ :=
 of8 [] Tryz.func309 (eC aDd eN)
theorem aCp : FK 311 bJ5 (.sc .str) wP :=
 of8 [] Tryz.func311 (eC aDd eN)
theorem aIs : FK 310 bG7 (.sc .str) lI :=
 of8 [] Tryz.func310 (eC aCp eN)
theorem aIw : FK 312 bG7 (.sc .str) lK :=
 of8 [] Tryz.func312 (eC aCp eN)
theorem aHa : FK 313 bG7 (.sc .str) jX :=
 of8 [] Tryz.func313 (eC aCp eN)
theorem aOq : FnOK Tryz.prog 81 ⟨(cL bZ .nil), (.sc .str), zS, []⟩ := aQt aCo aIv aIs aIw aHa
theorem aGs : FK 36 (cS .nil) (.tup (cO 49 bZ (cB .nil))) nO :=
 of8 [(5, ⟨[0], [4, 5], (cO 49 bZ (cS .nil))⟩)] Tryz.func36 (eC aNz (eC aG9 (eC aWh (eC aOq eN))))
theorem aLh : FK 76 (cI .nil) (.sc .bool) aA8 :=
 of8 [] Tryz.func76 (eC iQ eN)
theorem aWi : FK 33 (cA Z12 .nil) (.sc .bool) aI9 :=
 of8 [] Tryz.func33 (eC aGs (eC iQ (eC aEv (eC aLh (eC aCr eN)))))
theorem aQr : FK 34 (cL bS .nil) (.mp (.int .i64) (.int .i64)) aCu :=
 of8 [(3, ⟨[7, 8], [3, 9], bJ4⟩)] Tryz.func34 eN
theorem aT2 : FK 35 Z47 (.tup Z48) aF0 :=
 of8 [] Tryz.func35 (eC aOp (eC oI (eC aLh (eC aCr eN))))
def aDi : Env := { tt := lk TTb, fs := aMg [(110, [⟨(.cons (.sc (.int .i64)) .nil), (.sc .bool), zR, []⟩])] }
theorem aIb : aVk aDi [] (mD Tryz.f111) Tryz.f111.results.toList 0 bIi (.tup .nil) (.sc (.alt 118 true (.cons (.int .i64) .nil) .noi)) = kP := by kernel_rfl
theorem aKc : FnOKP Tryz.prog 111 ⟨bIi, (.tup .nil), (.sc (.alt 118 true (.cons (.int .i64) .nil) .noi)), kP, []⟩ :=
 FnOKP.of_run3 (E := aDi) Tryz.func111 (by kernel_rfl) (by kernel_rfl) aQ4 (EnvL.ok (EnvL.cons (OneL.cons aCq OneL.nil) EnvL.nil)) aA4 (by kernel_rfl) aIb
def aE8 : Env := { tt := lk TTb, fs := aMg [], fp := bB3 [(111, [⟨bIi, (.tup .nil), (.sc (.alt 118 true (.cons (.int .i64) .nil) .noi)), kP, []⟩])] }
theorem aJz : aVk aE8 [] (mD Tryz.f85) Tryz.f85.results.toList 0 bI2 (.tup .nil) (.sc (.alt 118 true (.cons (.int .i64) .nil) .noi)) = qZ := by kernel_rfl
theorem aMc : FnOKP Tryz.prog 85 ⟨bI2, (.tup .nil), (.sc (.alt 118 true (.cons (.int .i64) .nil) .noi)), qZ, []⟩ :=
 FnOKP.of_run3 (E := aE8) Tryz.func85 (by kernel_rfl) (by kernel_rfl) aQ4 (EnvL.okP EnvL.nil (EnvP.cons (OneP.cons aKc OneP.nil) EnvP.nil)) aA4 (by kernel_rfl) aJz
theorem aT3 : FnOK Tryz.prog 37 ⟨Z53, (.tup bJ3), aF1, []⟩ := aWj aCo aIt aMc
theorem vV : FK 8 (cA aPc (cA Z12 .nil)) (.agg aQx) mR :=
 of8 [(18, ⟨[5, 6, 97, 98], [2, 4, 7, 8, 99], bJ2⟩), (3000007, ⟨[5, 6], [2, 3, 4, 53], bJ1⟩), (3000008, ⟨[5, 6], [2, 3, 4], bJ0⟩), (3000023, ⟨[6, 5], [2, 4, 7], bJz⟩)] Tryz.func8 (eC aT4 (eC aMd (eC aOn (eC aWi (eC aQr (eC aT2 (eC aGs (eC aT3 (eC aIu (eC xN eN))))))))))
theorem aEl : FK 10 Z82 (.sc .bool) aAn :=
 of8 [(4, ⟨[1, 0], [5], (cI .nil)⟩)] Tryz.func10 eN
theorem aZh : FK 40 (cA Z46 (cA Z46 .nil)) (.sc .bool) aMh :=
 of8 [] Tryz.func40 (eC aEl eN)
theorem aTn : FK 41 (cL bS (cL bS .nil)) (.sc .bool) aFd :=
 of8 [(4, ⟨[1, 0], [5], (cI .nil)⟩)] Tryz.func41 eN
theorem aV4 : FK 42 (cL fU (cL fU .nil)) (.sc .bool) aHw :=
 of8 [(4, ⟨[1, 0], [5], (cI .nil)⟩)] Tryz.func42 (eC aEl eN)
theorem aCe : FK 9 (cA aPc (cA aPc .nil)) (.sc .bool) gI :=
 of8 [] Tryz.func9 (eC aZh (eC aTn (eC aV4 eN)))
theorem ok_w_FnBooksOthers : FK 3 (cL (.int .u8) .nil) (.sc .bool) w_FnBooksOthers :=
 of8 [(9, ⟨[], [3, 4, 6, 7], bJy⟩), (14, ⟨[7], [6, 4, 3, 8, 9], bJx⟩)] Tryz.func3 (eC aA2 (eC vU (eC vV (eC aCe (eC aEl eN)))))
theorem ok_w_FnBooksPast : FK 4 (cL (.int .u8) .nil) (.sc .bool) w_FnBooksPast :=
 of8 [(5, ⟨[0], [3, 4, 5], bJw⟩), (15, ⟨[], [4, 3, 7, 8, 9], bJv⟩)] Tryz.func4 (eC aA2 (eC vU (eC vV (eC aCe (eC aIq eN)))))
theorem aKa : FK 12 (cL (.int .u8) .nil) (.own 31 yC) sU :=
 of8 [] Tryz.func12 (eC aEm (eC dN (eC aGn eN)))
theorem aTo : FK 47 (cP Z0 .nil) (.own 49 bZ) aFg :=
 of8 [(10, ⟨[], [0, 1000000, 3], bJu⟩)] Tryz.func47 (eC dN (eC aLa (eC zK eN)))
theorem aMb : FK 13 (cL (.int .u8) .nil) (.own 49 bZ) qR :=
 of8 [] Tryz.func13 (eC aEm (eC aTo eN))
theorem aQs : FK 95 .nil (.agg (cI (cO 3 (.int .i64) .nil))) aCv :=
 of8 [(4000003, ⟨[0, 0, 0, 0, 0, 0, 0, 0, 0], [], .dead⟩)] Tryz.func95 (eC oI eN)
theorem aMe : FK 52 .nil (.agg aBf) vZ :=
 of8 [] Tryz.func52 (eC aQs eN)
theorem aT5 : FK 16 (cL yC .nil) (.agg aQx) aF3 :=
 of8 [(5, ⟨[11, 12], [2, 3, 13], bJt⟩)] Tryz.func16 (eC vV (eC aMe eN))
theorem ok_w_FnBooksSwap : FK 5 bJq (.sc .bool) w_FnBooksSwap :=
 of8 [(13, ⟨[], [6, 7, 8, 9, 11, 12], bJs⟩), (16, ⟨[12], [11, 9, 8, 7, 6, 13], bJr⟩)] Tryz.func5 (eC vV (eC aCe (eC aKa (eC aMb (eC xP (eC aIr (eC aT5 (eC qG eN))))))))
end Ab
end
section
set_option maxRecDepth 100000
namespace Ab
open Go
theorem xZ {R : Type} {c : Bool} {a : Option R} {Q : R → Prop} (hc : c = true) (h : c = true → Tot a Q) : Tot (bif c then a else none) Q := by subst hc; exact h rfl
theorem dD {n : Int} (h1 : -9223372036854775808 ≤ n) (h2 : n ≤ 9223372036854775807) : IntKind.i64.wrap n = n := IntWalk.i64_in n ⟨h1, h2⟩
def SlotsG (xs : List Int) : Prop := xs.length ≤ 8 ∧ ∀ s ∈ xs, 0 ≤ s ∧ s < 8
theorem SlotsG.intro {xs : List Int} (h : ∀ k : Int, 0 ≤ k → k < (xs.length : Int) → k ≤ aV xs k ∧ aV xs k < (8 : Int)) : SlotsG xs := by
 refine ⟨?_, jR (P := fun s : Int => 0 ≤ s ∧ s < 8) fun k h1 h2 => ?_⟩
 ·rcases Nat.eq_zero_or_pos xs.length with h0 | h0
  ·omega
  have := h (xs.length - 1 : Int) (by omega) (by omega)
  have key : ∀ v : Int, (xs.length : Int) - 1 ≤ v → v < 8 → xs.length ≤ 8 := by intro v; omega
  exact key _ this.1 this.2
 have := h k h1 h2
 exact ⟨Int.le_trans h1 this.1, this.2⟩
theorem aZ {α : Type} {xs : List α} {i : Int} {x y : α} (h : y ∈ dP xs i x) : y ∈ xs ∨ y = x := List.mem_or_eq_of_mem_set h
theorem bK {α : Type} {xs : List α} {lo hi : Int} {y : α} (h : y ∈ cut xs lo hi) : y ∈ xs := List.mem_of_mem_drop (List.mem_of_mem_take h)
theorem bA {α : Type} (xs : List α) {lo hi : Int} (h1 : 0 ≤ lo) (h2 : lo ≤ hi) (h3 : hi ≤ (xs.length : Int)) : (cut xs lo hi).length = (hi - lo).toNat := by
 have := bG3 xs h1 h2 h3; omega
theorem bY {α : Type} {xs : List α} {i : Int} (h : (xs.length : Int) ≤ i) : xs.take i.toNat = xs := List.take_of_length_le (by omega)
theorem kL {α : Type} (xs : List α) : ([] : List α) ++ xs = xs := rfl
def aQy (r : iN) : Prop := r.2.2.2.2.1.length ≤ 1000000 ∧ r.2.2.2.2.2.length ≤ 1000000
def RecG (r : iN) : Prop := r.2.2.2.2.1.length ≤ 8 ∧ r.2.2.2.2.2.length ≤ 32 ∧ (r.1 = 1 → SlotsG r.2.2.2.2.1 ∧ 1 ≤ r.2.2.2.2.1.length)
def LogG (log : List iN) : Prop := log.length ≤ 1000 ∧ (∀ r ∈ log, RecG r) ∧ ∀ d ∈ log, d.1 = 2 → ∃ p ∈ log, p.1 = 1 ∧ p.2.1 = d.2.1 ∧ p.2.2.1 = d.2.2.1
def yA (l : RLock) : Prop := l.2.1.length ≤ 1000000 ∧ l.2.2.length ≤ 1000000
def LockG (l : RLock) : Prop := l.2.1.length ≤ 50 ∧ l.2.2.length ≤ 50
def aSg (w : aY) : Prop := w.2.2.2.length ≤ 1000000
def WorkG (w : aY) : Prop := SlotsG w.2.2.2 ∧ 1 ≤ w.2.2.2.length
def aAi (h : aO) : Prop := h.2.2.1.length ≤ 1000000 ∧ (∀ r ∈ h.2.2.1, aQy r) ∧ h.2.2.2.2.1.length ≤ 1000000 ∧ (∀ l ∈ h.2.2.2.2.1, yA l) ∧ h.2.2.2.2.2.length ≤ 1000000 ∧ ∀ w ∈ h.2.2.2.2.2, aSg w
def HouseG (h : aO) : Prop := LogG h.2.2.1 ∧ h.2.2.2.2.1.length = 8 ∧ (∀ l ∈ h.2.2.2.2.1, LockG l) ∧ h.2.2.2.2.2.length ≤ 1000 ∧ ∀ w ∈ h.2.2.2.2.2, WorkG w
theorem RecG.w {r : iN} (h : RecG r) : aQy r := ⟨by have := h.1; omega, by have := h.2.1; omega⟩
theorem LockG.w {l : RLock} (h : LockG l) : yA l := ⟨by have := h.1; omega, by have := h.2; omega⟩
theorem WorkG.w {w : aY} (h : WorkG w) : aSg w := by have := h.1.1; unfold aSg; omega
theorem LogG.addP {log : List iN} {r : iN} (h : LogG log) (hl : log.length < 1000) (hr : RecG r) (h2 : r.1 ≠ 2) : LogG (log ++ [r]) := by
 refine ⟨by simp; omega, aMs h.2.1 (aMk hr), fun d hd e => ?_⟩
 rcases List.mem_append.1 hd with hd | hd
 ·obtain ⟨p, hp, k⟩ := h.2.2 d hd e
  exact ⟨p, List.mem_append_left _ hp, k⟩
 rw [List.mem_singleton.1 hd] at e; exact absurd e h2
theorem LogG.addD {log : List iN} {r p : iN} (h : LogG log) (hl : log.length < 1000) (hr : RecG r) (hp : p ∈ log) (h2 : p.1 = 1 ∧ p.2.1 = r.2.1 ∧ p.2.2.1 = r.2.2.1) : LogG (log ++ [r]) := by
 refine ⟨by simp; omega, aMs h.2.1 (aMk hr), fun d hd e => ?_⟩
 rcases List.mem_append.1 hd with hd | hd
 ·obtain ⟨p, hp, k⟩ := h.2.2 d hd e
  exact ⟨p, List.mem_append_left _ hp, k⟩
 rw [List.mem_singleton.1 hd]; exact ⟨p, List.mem_append_left _ hp, h2⟩
theorem LogG.mem {log : List iN} (h : LogG log) : ∀ r ∈ log, RecG r := h.2.1
theorem LogG.len {log : List iN} (h : LogG log) : log.length ≤ 1000 := h.1
theorem HouseG.addP {h : aO} {r : iN} {i : Int} (g : HouseG h) (hl : h.2.2.1.length < 1000) (hr : RecG r) (h2 : r.1 ≠ 2) : HouseG (h.1, (h.2.1, (h.2.2.1 ++ [r], (i, h.2.2.2.2)))) := ⟨g.1.addP hl hr h2, g.2⟩
theorem HouseG.w {h : aO} (g : HouseG h) : aAi h :=
 ⟨by have := g.1.1; omega, fun r hr => (g.1.2.1 r hr).w, by have := g.2.1; omega, fun l hl => (g.2.2.1 l hl).w, by have := g.2.2.2.1; omega, fun w hw => (g.2.2.2.2 w hw).w⟩
def HouseB (h : aO) : Prop := h.2.2.1.length ≤ 1000 ∧ (∀ r ∈ h.2.2.1, RecG r) ∧ h.2.2.2.2.1.length ≤ 8 ∧ (∀ l ∈ h.2.2.2.2.1, LockG l) ∧ h.2.2.2.2.2.length ≤ 1000 ∧ ∀ w ∈ h.2.2.2.2.2, WorkG w
theorem HouseG.b {h : aO} (g : HouseG h) : HouseB h := ⟨g.1.1, g.1.2.1, by have := g.2.1; omega, g.2.2⟩
theorem HouseB.w {h : aO} (g : HouseB h) : aAi h :=
 ⟨by have := g.1; omega, fun r hr => (g.2.1 r hr).w, by have := g.2.2.1; omega, fun l hl => (g.2.2.2.1 l hl).w, by have := g.2.2.2.2.1; omega, fun w hw => (g.2.2.2.2.2 w hw).w⟩
def dV (w : aP) : Prop := w.2.2.2.2.2.2.2.1.length ≤ 40 ∧ w.2.2.2.2.2.2.2.2.1.length ≤ 40 ∧ w.2.2.2.2.2.2.2.2.2.2.1.length ≤ 40 ∧ w.2.2.2.2.2.2.2.2.2.2.2.2.2.2.1.size ≤ 1000
theorem w8a {n : Int} (h1 : 0 ≤ n) (h2 : n ≤ 255) : IntKind.u8.wrap n = n := IntWalk.u8_in n ⟨h1, h2⟩
theorem sK (s : ByteArray) (lo hi : Int) : (aHn s lo hi).size ≤ s.size := by
 unfold aHn; rw [ByteArray.size_extract]; omega
theorem aQ {a b : ByteArray} (h : a.size + b.size ≤ 1000000000000) : kM a b = true := by unfold kM; exact decide_eq_true (by omega)
theorem aF (a b : ByteArray) : (a ++ b).size = a.size + b.size := ByteArray.size_append
theorem size_mk (a : Array UInt8) : (⟨a⟩ : ByteArray).size = a.size := rfl
def dec (n : Nat) : ByteArray := if n < 10 then ⟨#[UInt8.ofNat (48 + n)]⟩ else dec (n / 10) ++ ⟨#[UInt8.ofNat (48 + n % 10)]⟩
theorem uL : ∀ (k n : Nat), n < 10 ^ (k + 1) → (dec n).size ≤ k + 1
 | 0, n, h => by
  unfold dec
  rw [if_pos (by simpa using h)]; exact Nat.le_refl 1
 | k + 1, n, h => by
  unfold dec
  split
  ·show 1 ≤ _; omega
  ·rw [aF]
   have := uL k (n / 10) (by rw [Nat.pow_succ] at h; omega)
   show (dec (n / 10)).size + 1 ≤ _
   omega
theorem aE7 {d : Nat} (h : d < 10) : bytesOf [aSq (aG (48 + (d : Int)))] = ⟨#[UInt8.ofNat (48 + d)]⟩ := by
 have e1 : aG (48 + (d : Int)) = 48 + d := dD (by omega) (by omega)
 have e2 : aSq (48 + (d : Int)) = 48 + d := w8a (by omega) (by omega)
 rw [e1, e2]
 simp only [bytesOf, List.map_cons, List.map_nil]
 have : (48 + (d : Int)).toNat = 48 + d := by omega
 rw [this]
theorem bGu : ∀ (k n m : Nat), n < 10 ^ (k + 1) → n ≤ 1000000000 → k + 1 ≤ m → rO m (n : Int) = some (dec n) := by
 intro k
 induction k with
 | zero =>
  intro n m h _ hm
  obtain ⟨m, rfl⟩ : ∃ q, m = q + 1 := ⟨m - 1, by omega⟩
  have h : n < 10 := by simpa using h
  unfold rO aAr dec
  have h1 : decide ((n : Int) < -9223372036854775807) = false := decide_eq_false (by omega)
  have h2 : decide ((n : Int) < 0) = false := decide_eq_false (by omega)
  have h3 : decide ((n : Int) < 10) = true := decide_eq_true (by omega)
  rw [h1, h2, h3, if_pos h]
  simp only [cond_true, cond_false]
  rw [aE7 h]
 | succ k ih =>
  intro n m h hn hm
  obtain ⟨m, rfl⟩ : ∃ q, m = q + 1 := ⟨m - 1, by omega⟩
  by_cases h10 : n < 10
  ·unfold rO aAr dec
   have h1 : decide ((n : Int) < -9223372036854775807) = false := decide_eq_false (by omega)
   have h2 : decide ((n : Int) < 0) = false := decide_eq_false (by omega)
   have h3 : decide ((n : Int) < 10) = true := decide_eq_true (by omega)
   rw [h1, h2, h3, if_pos h10]
   simp only [cond_true, cond_false]
   rw [aE7 h10]
  ·have hd := ih (n / 10) m (by rw [Nat.pow_succ] at h; omega) (by omega) (by omega)
   have hs := uL 9 (n / 10) (by omega)
   have e1 : aG (Int.tdiv (n : Int) 10) = ((n / 10 : Nat) : Int) := by
    rw [Int.tdiv_eq_ediv_of_nonneg (by omega)]
    exact (dD (by omega) (by omega)).trans (by omega)
   have e2 : Int.tmod (n : Int) 10 = ((n % 10 : Nat) : Int) := by
    rw [Int.tmod_eq_emod_of_nonneg (by omega)]; omega
   unfold rO aAr
   rw [dec, if_neg h10]
   have h1 : decide ((n : Int) < -9223372036854775807) = false := decide_eq_false (by omega)
   have h2 : decide ((n : Int) < 0) = false := decide_eq_false (by omega)
   have h3 : decide ((n : Int) < 10) = false := decide_eq_false (by omega)
   have h4 : (!((10 : Int) == 0)) = true := rfl
   rw [h1, h2, h3]
   simp only [cond_true, cond_false, h4, e1, e2, hd, oG, Option.bind_some, dC]
   rw [aE7 (by omega)]
   have hz : (dec (n / 10)).size + (⟨#[UInt8.ofNat (48 + n % 10)]⟩ : ByteArray).size ≤ 1000000000000 := by
    show (dec (n / 10)).size + 1 ≤ _
    omega
   rw [aQ hz]
   rfl
theorem wG (x : Int) (h0 : 0 ≤ x) (h1 : x ≤ 99999) : Tot (aFi x) (fun y => y = dec x.toNat ∧ y.size ≤ 5) := by
 obtain ⟨n, rfl⟩ : ∃ n : Nat, x = n := ⟨x.toNat, by omega⟩
 exact ⟨_, bGu 4 n 1000000 (by omega) (by omega) (by omega), by simp, uL 4 n (by omega)⟩
theorem bB4 {s : ByteArray} (h : eqS s emptyS = true) : s.size = 0 := by
 unfold eqS at h
 have h := eq_of_beq h
 have e : emptyS.toList = [] := by rw [ByteArray.toList_eq]
 rw [e, ByteArray.toList_eq] at h
 have h2 : s.data.toList.length = 0 := by rw [h]; rfl
 rw [Array.length_toList] at h2
 exact h2
theorem aOr {n b : Int} (h1 : 0 ≤ n) (h2 : n ≤ 99999) (h3 : 48 ≤ b) (h4 : b ≤ 57) : IntKind.i64.wrap (IntKind.i64.wrap (n * 10) + IntKind.i64.wrap (IntKind.u8.wrap (b - 48))) = n * 10 + (b - 48) := by
 rw [w8a (n := b - 48) (by omega) (by omega), dD (n := b - 48) (by omega) (by omega), dD (n := n * 10) (by omega) (by omega), dD (by omega) (by omega)]
theorem aSb {S R : Type} (m : Option S) (c : Bool) (k : S → Option R) : (bif c then aD m k else none) = aD m (fun y => bif c then k y else none) := by
 rw [oG, oG]
 cases c <;> cases m <;> rfl
def bAv (x : List aI) : Prop := x.length ≤ 6 ∧ 1 ≤ x.length ∧ ∀ s ∈ x, 1 ≤ s.1 ∧ s.1 ≤ 4 ∧ 0 ≤ s.2.1 ∧ s.2.1 ≤ 31 ∧ -9999 ≤ s.2.2 ∧ s.2.2 ≤ 9999
end Ab
end
section
set_option maxRecDepth 100000
namespace Ab
open Go
def aGc (r : bB) : Prop := r.2.2.2.2.2.1.size ≤ 1000000 ∧ r.2.2.2.2.2.2.2.2.2.1.length ≤ 1000000 ∧ r.2.2.2.2.2.2.2.2.2.2.length ≤ 1000000
def RecordG (r : bB) : Prop := r.2.2.2.2.2.1.size ≤ 80 ∧ r.2.2.2.2.2.2.2.2.2.1.length ≤ 6 ∧ r.2.2.2.2.2.2.2.2.2.2.length ≤ 32
def aXe (l : bI) : Prop := l.2.2.2.2.2.2.2.1.size ≤ 1000000 ∧ l.2.2.2.2.2.2.2.2.2.2.1.length ≤ 1000000 ∧ l.2.2.2.2.2.2.2.2.2.2.2.length ≤ 1000000 ∧ ∀ t ∈ l.2.2.2.2.2.2.2.2.2.2.2, t.2.length ≤ 1000000
def LiveG (l : bI) : Prop := l.2.2.2.2.2.2.2.1.size ≤ 80 ∧ l.2.2.2.2.2.2.2.2.2.2.1.length ≤ 8 ∧ l.2.2.2.2.2.2.2.2.2.2.2.length ≤ 8 ∧ ∀ t ∈ l.2.2.2.2.2.2.2.2.2.2.2, t.2.length ≤ 32
def LiveS (l : bI) : Prop := l.2.2.2.2.2.2.2.1.size ≤ 80 ∧ l.2.2.2.2.2.2.2.2.2.2.1.length ≤ 3 ∧ l.2.2.2.2.2.2.2.2.2.2.2.length ≤ 3 ∧ ∀ t ∈ l.2.2.2.2.2.2.2.2.2.2.2, t.2.length ≤ 32
def aLy (g : aT) : Prop := g.2.2.2.1.length ≤ 1000000 ∧ (∀ r ∈ g.2.2.2.1, aGc r) ∧ g.2.2.2.2.1.length ≤ 1000000 ∧ (∀ l ∈ g.2.2.2.2.1, aXe l) ∧ g.2.2.2.2.2.length ≤ 1000000
def GateI (g : aT) : Prop := g.2.2.2.1.length + g.2.2.2.2.1.length ≤ 70 ∧ (∀ r ∈ g.2.2.2.1, RecordG r) ∧ g.2.2.2.2.1.length ≤ 4 ∧ (∀ l ∈ g.2.2.2.2.1, LiveG l) ∧ g.2.2.2.2.2.length ≤ 1000
def GateG (g : aT) : Prop := g.2.2.2.1.length ≤ 60 ∧ (∀ r ∈ g.2.2.2.1, RecordG r) ∧ g.2.2.2.2.1.length ≤ 3 ∧ (∀ l ∈ g.2.2.2.2.1, LiveS l) ∧ g.2.2.2.2.2.length ≤ 6
theorem RecordG.w {r : bB} (h : RecordG r) : aGc r := by unfold RecordG at h; unfold aGc; omega
theorem LiveG.w {l : bI} (h : LiveG l) : aXe l := ⟨by have := h.1; omega, by have := h.2.1; omega, by have := h.2.2.1; omega, fun t ht => by have := h.2.2.2 t ht; omega⟩
theorem LiveS.g {l : bI} (h : LiveS l) : LiveG l := ⟨h.1, by have := h.2.1; omega, by have := h.2.2.1; omega, h.2.2.2⟩
theorem GateI.w {g : aT} (h : GateI g) : aLy g := ⟨by have := h.1; omega, fun r hr => (h.2.1 r hr).w, by have := h.1; omega, fun l hl => (h.2.2.2.1 l hl).w, by have := h.2.2.2.2; omega⟩
theorem GateG.i {g : aT} (h : GateG g) : GateI g := ⟨by have := h.1; have := h.2.2.1; omega, h.2.1, by have := h.2.2.1; omega, fun l hl => (h.2.2.2.1 l hl).g, by have := h.2.2.2.2; omega⟩
theorem GateG.w {g : aT} (h : GateG g) : aLy g := h.i.w
def jA (m : fT) : Prop := 1 ≤ m.1 ∧ m.1 ≤ 99 ∧ m.2.length = 8 ∧ ∀ o ∈ m.2, 0 ≤ o ∧ o ≤ 2
def yF (xs : List aN) (h : Int) : Nat := xs.countP (fun p => p.1 == h)
theorem bB8 {xs : List aN} {i h : Int} (h1 : 0 ≤ i) (h2 : i < (xs.length : Int)) : yF (xs.take (i + 1).toNat) h = yF (xs.take i.toNat) h + (if (bM xs i).1 = h then 1 else 0) := by
 unfold yF
 rw [wF h1 h2, List.countP_append]
 simp only [List.countP_cons, List.countP_nil, Nat.zero_add, beq_iff_eq]
theorem bG6 (xs : List aN) (h : Int) : yF xs h ≤ xs.length := List.countP_le_length
theorem bB7 (h : Int) (xs : List aN) : yF (xs.take (0 : Int).toNat) h = 0 := rfl
theorem wS {xs : List aN} (h : ∀ w ∈ xs, 0 ≤ w.1 ∧ w.1 < 3 ∧ yF xs w.1 ≤ 2) : xs.length ≤ 6 := by
 have h1 : ∀ ys : List aN, (∀ w ∈ ys, 0 ≤ w.1 ∧ w.1 < 3) → ys.length = yF ys 0 + yF ys 1 + yF ys 2 := by
  intro ys
  induction ys with
  | nil => intro _; rfl
  | cons y ys ih =>
   intro hy
   have h0 := ih fun w hw => hy w (List.mem_cons_of_mem _ hw)
   have h2 := hy y List.mem_cons_self
   unfold yF at h0 ⊢
   simp only [List.countP_cons, List.length_cons, beq_iff_eq]
   have : y.1 = 0 ∨ y.1 = 1 ∨ y.1 = 2 := by omega
   rcases this with e | e | e <;> rw [e] <;> simp <;> omega
 have h2 : ∀ k : Int, yF xs k ≤ 2 := by
  intro k
  rcases Nat.eq_zero_or_pos (yF xs k) with h0 | h0
  ·omega
  ·obtain ⟨w, hw, e⟩ := List.countP_pos_iff.1 h0
   have := (h w hw).2.2
   rwa [eq_of_beq e] at this
 have := h1 xs fun w hw => ⟨(h w hw).1, (h w hw).2.1⟩
 have a := h2 0; have b := h2 1; have c := h2 2
 omega
theorem uH {n : Nat} (f : Int → Int) (h : ∀ k : Int, 0 ≤ k → k < (n : Int) → k ≤ f k ∧ f k ≤ 2) : n ≤ 3 := by
 rcases Nat.lt_or_ge 3 n with h3 | h3
 ·have := h 3 (by omega) (by omega); omega
 exact h3
theorem GateI.wr {g : aT} {i : Int} {l : bI} (h : GateI g) (hl : LiveG l) : GateI (g.1, (g.2.1, (g.2.2.1, (g.2.2.2.1, (dP g.2.2.2.2.1 i l, g.2.2.2.2.2))))) :=
 ⟨by show _ + (dP _ _ _).length ≤ _; rw [aW]; exact h.1, h.2.1, by show (dP _ _ _).length ≤ _; rw [aW]; exact h.2.2.1, aU2 h.2.2.2.1 hl, h.2.2.2.2⟩
theorem GateI.take {g : aT} {i v p : Int} (h : GateI g) (h1 : 0 ≤ i) (h2 : i < (g.2.2.2.2.1.length : Int)) :
  GateI (g.1, (g.2.1, (g.2.2.1, (g.2.2.2.1, (dP (dP g.2.2.2.2.1 i ((aK g.2.2.2.2.1 i).1, ((aK g.2.2.2.2.1 i).2.1, ((aK g.2.2.2.2.1 i).2.2.1, (p, (aK g.2.2.2.2.1 i).2.2.2.2))))) i
   ((aK (dP g.2.2.2.2.1 i ((aK g.2.2.2.2.1 i).1, ((aK g.2.2.2.2.1 i).2.1, ((aK g.2.2.2.2.1 i).2.2.1, (p, (aK g.2.2.2.2.1 i).2.2.2.2))))) i).1, ((aK (dP g.2.2.2.2.1 i ((aK g.2.2.2.2.1 i).1, ((aK g.2.2.2.2.1 i).2.1, ((aK g.2.2.2.2.1 i).2.2.1, (p, (aK g.2.2.2.2.1 i).2.2.2.2))))) i).2.1, (v, (aK (dP g.2.2.2.2.1 i ((aK g.2.2.2.2.1 i).1, ((aK g.2.2.2.2.1 i).2.1, ((aK g.2.2.2.2.1 i).2.2.1, (p, (aK g.2.2.2.2.1 i).2.2.2.2))))) i).2.2.2))), g.2.2.2.2.2))))) := by
 have hl : LiveG (aK g.2.2.2.2.1 i) := h.2.2.2.1 _ (dE h1 h2)
 have h3 := h.wr (i := i) (l := ((aK g.2.2.2.2.1 i).1, ((aK g.2.2.2.2.1 i).2.1, ((aK g.2.2.2.2.1 i).2.2.1, (p, (aK g.2.2.2.2.1 i).2.2.2.2))))) hl
 have h4 : LiveG (aK (dP g.2.2.2.2.1 i ((aK g.2.2.2.2.1 i).1, ((aK g.2.2.2.2.1 i).2.1, ((aK g.2.2.2.2.1 i).2.2.1, (p, (aK g.2.2.2.2.1 i).2.2.2.2))))) i) := h3.2.2.2.1 _ (dE h1 (by rw [aW]; exact h2))
 exact h3.wr (i := i) h4
end Ab
end
section
set_option maxRecDepth 100000
namespace Ab
open Go
abbrev bAu : Type := Int × Bool × Int × Int × List bB × List bI × List aN × List aO × List aP × List aU × List aR
def jQ (c : aU) : Prop := c.2.2.2.1.size ≤ 1000 ∧ c.2.2.2.2.2.2.2.2.2.2.length ≤ 40
def EvG (e : aR) : Prop := e.2.2.2.2.2.2.2.2.1.size ≤ 1000
def gV (w : bD) : Prop := GateG (w.2.1, (w.2.2.1, (w.2.2.2.1, (w.2.2.2.2.1, (w.2.2.2.2.2.1, w.2.2.2.2.2.2.1))))) ∧ w.2.2.2.2.2.2.2.1.length = 3 ∧ (∀ h ∈ w.2.2.2.2.2.2.2.1, HouseB h) ∧ w.2.2.2.2.2.2.2.2.1.length ≤ 60 ∧ (∀ v ∈ w.2.2.2.2.2.2.2.2.1, dV v) ∧ w.2.2.2.2.2.2.2.2.2.length ≤ 18 ∧ ∀ c ∈ w.2.2.2.2.2.2.2.2.2, jQ c
def evs (s : bAu) : List aR := s.2.2.2.2.2.2.2.2.2.2
def SimG (s : bAu) : Prop := gV (s.1, (s.2.1, (s.2.2.1, (s.2.2.2.1, (s.2.2.2.2.1, (s.2.2.2.2.2.1, (s.2.2.2.2.2.2.1, (s.2.2.2.2.2.2.2.1, (s.2.2.2.2.2.2.2.2.1, s.2.2.2.2.2.2.2.2.2.1))))))))) ∧ ∀ e ∈ s.2.2.2.2.2.2.2.2.2.2, EvG e
def RdB (l : List Int) : Prop := l.length ≤ 2000 ∧ ∀ b ∈ l, 0 ≤ b ∧ b ≤ 255
def BooksW (b : bC) : Prop := b.2.2.1.length ≤ 1000000 ∧ b.2.2.2.1.length ≤ 1000000 ∧ b.2.2.2.2.length ≤ 1000000 ∧ ∀ s ∈ b.2.2.2.2, s.2.2.2.length ≤ 1000000
def BooksG (b : bC) : Prop := b.2.2.1.length ≤ 8 ∧ b.2.2.2.1.length ≤ 40 ∧ b.2.2.2.2.length ≤ 10 ∧ ∀ s ∈ b.2.2.2.2, s.2.2.2.length ≤ 6
def BooksS (b : bC) : Prop := b.2.2.1.length ≤ 8 ∧ b.2.2.2.1.length ≤ 32 ∧ b.2.2.2.2.length ≤ 4 ∧ ∀ s ∈ b.2.2.2.2, s.2.2.2.length ≤ 6
theorem BooksS.g {b : bC} (h : BooksS b) : BooksG b := ⟨h.1, by have := h.2.1; omega, by have := h.2.2.1; omega, h.2.2.2⟩
theorem BooksS.w {b : bC} (h : BooksS b) : BooksW b := ⟨by have := h.1; omega, by have := h.2.1; omega, by have := h.2.2.1; omega, fun s hs => by have := h.2.2.2 s hs; omega⟩
theorem BooksG.w {b : bC} (h : BooksG b) : BooksW b := ⟨by have := h.1; omega, by have := h.2.1; omega, by have := h.2.2.1; omega, fun s hs => by have := h.2.2.2 s hs; omega⟩
theorem GateG.zero : GateG (false, (0, (0, ([], ([], []))))) := ⟨Nat.zero_le _, fun _ h => (by cases h), Nat.zero_le _, fun _ h => (by cases h), Nat.zero_le _⟩
theorem bF7 {r : Ty} {xs : List r.T} {i : Int} {v : r.T} (h1 : 0 ≤ i) (h2 : i < (xs.length : Int)) : iG r (dP xs i v) i = v := by
 unfold iG dP
 have : i.toNat < xs.length := by omega
 rw [List.getD_eq_getElem?_getD, List.getElem?_set_self this]; rfl
theorem gK {xs : List bI} {i : Int} {v : bI} (h1 : 0 ≤ i) (h2 : i < (xs.length : Int)) : aK (dP xs i v) i = v := bF7 h1 h2
theorem GateG.lives {g : aT} (h : GateG g) : g.2.2.2.2.1.length ≤ 3 := h.2.2.1
theorem GateG.ways {g : aT} (h : GateG g) : g.2.2.2.2.2.length ≤ 6 := h.2.2.2.2
theorem SimG.radio {s : bAu} (h : SimG s) : s.2.2.2.2.2.2.2.2.1.length ≤ 60 := h.1.2.2.2.1
theorem SimG.calls {s : bAu} (h : SimG s) : s.2.2.2.2.2.2.2.2.2.1.length ≤ 18 := h.1.2.2.2.2.2.1
theorem aXg {a b : Int} (ha : 0 ≤ a) (hb : 0 ≤ b) (ha2 : a < 1099511627776) (hb2 : b < 1099511627776) : 0 ≤ bCf .i64 a b ∧ bCf .i64 a b < 1099511627776 := by
 obtain ⟨m, rfl⟩ : ∃ m : Nat, a = m := ⟨a.toNat, by omega⟩
 obtain ⟨n, rfl⟩ : ∃ n : Nat, b = n := ⟨b.toNat, by omega⟩
 have hx : m ^^^ n < 2 ^ 40 := Nat.xor_lt_two_pow (by omega) (by omega)
 have e : (BitVec.ofInt IntKind.i64.bits (m : Int) ^^^ BitVec.ofInt IntKind.i64.bits (n : Int)).toNat = m ^^^ n := by
  rw [BitVec.toNat_xor, BitVec.ofInt_natCast, BitVec.ofInt_natCast, BitVec.toNat_ofNat, BitVec.toNat_ofNat]
  have hb : IntKind.i64.bits = 64 := rfl
  rw [hb, Nat.mod_eq_of_lt (by omega), Nat.mod_eq_of_lt (by omega)]
 unfold bCf
 rw [e]
 have hx' : ((m ^^^ n : Nat) : Int) < 1099511627776 := by
  have : (2 : Nat) ^ 40 = 1099511627776 := by decide
  omega
 rw [dD (by omega) (by omega)]
 omega
theorem aM (x : cK × Int) (h0 : RdB x.1.1) (h1 : 0 ≤ x.1.2) (h2 : x.1.2 ≤ 1000000000) (h3 : x.2 ≤ 1000000) :
  Tot (aL x) (fun y => y.1.1 = x.1.1 ∧ y.1.2 = x.1.2 + 1 ∧ 0 ≤ y.2 ∧ (1 ≤ x.2 → y.2 < x.2) ∧ (x.2 < 1 → y.2 = 0)) := by
 unfold aL
 have e1 : aG (x.1.2 + 1) = x.1.2 + 1 := dD (by omega) (by omega)
 have e2 : aG (x.1.2 + 1 - 1) = x.1.2 := by rw [aG, dD (by omega) (by omega)]; omega
 simp only [e1, e2]
 apply aB <;> intro hc
 ·exact aA ⟨rfl, rfl, by omega, fun h => (by have := of_decide_eq_true hc; omega), fun _ => rfl⟩
 have hn : 1 ≤ x.2 := by have := of_decide_eq_false hc; omega
 have hn0 : (!(x.2 == 0)) = true := by simp; omega
 refine aB (fun hl => ?_) fun hl => ?_
 ·exact aA ⟨rfl, rfl, by omega, fun h => (by omega), fun _ => rfl⟩
 have hl0 : (!((x.1.1.length : Int) == 0)) = true := by rw [hl]; rfl
 have hL : 1 ≤ x.1.1.length := by
  rcases Nat.eq_zero_or_pos x.1.1.length with h | h
  ·rw [h] at hl; cases hl
  ·exact h
 have fin : ∀ v : Int, 0 ≤ v → Tot (some ((x.1.1, x.1.2 + 1), Int.tmod v x.2)) (fun y => y.1.1 = x.1.1 ∧ y.1.2 = x.1.2 + 1 ∧ 0 ≤ y.2 ∧ (1 ≤ x.2 → y.2 < x.2) ∧ (x.2 < 1 → y.2 = 0)) := fun v hv => by
  refine aA ⟨rfl, rfl, ?_, fun _ => ?_, fun _ => by omega⟩
  ·rw [Int.tmod_eq_emod_of_nonneg hv]; exact Int.emod_nonneg _ (by omega)
  ·rw [Int.tmod_eq_emod_of_nonneg hv]; exact Int.emod_lt_of_pos _ (by omega)
 have rdr : ∀ i : Int, 0 ≤ i → i < (x.1.1.length : Int) → 0 ≤ aGl x.1.1 i ∧ aGl x.1.1 i ≤ 255 := fun i a b => h0.2 _ (bJo a b)
 refine aB (fun hk => ?_) fun hk => ?_
 ·have hk := of_decide_eq_true hk
  rw [aAg h1 hk]
  obtain ⟨r1, r2⟩ := rdr _ h1 hk
  have e3 : aG (aGl x.1.1 x.1.2) = aGl x.1.1 x.1.2 := dD (by omega) (by omega)
  simp only [e3, hn0, cond_true]
  exact fin _ r1
 have hk := of_decide_eq_false hk
 have hLi : (0 : Int) < x.1.1.length := by omega
 have m1 : Int.tmod x.1.2 (x.1.1.length : Int) = x.1.2 % (x.1.1.length : Int) := Int.tmod_eq_emod_of_nonneg h1
 have m1a : 0 ≤ x.1.2 % (x.1.1.length : Int) := Int.emod_nonneg _ (by omega)
 have m1b : x.1.2 % (x.1.1.length : Int) < x.1.1.length := Int.emod_lt_of_pos _ hLi
 have e4 : aG (aG (x.1.2 * 7) + 3) = x.1.2 * 7 + 3 := by rw [show aG (x.1.2 * 7) = x.1.2 * 7 from dD (by omega) (by omega)]; exact dD (by omega) (by omega)
 have m2 : Int.tmod (x.1.2 * 7 + 3) (x.1.1.length : Int) = (x.1.2 * 7 + 3) % (x.1.1.length : Int) := Int.tmod_eq_emod_of_nonneg (by omega)
 have m2a : 0 ≤ (x.1.2 * 7 + 3) % (x.1.1.length : Int) := Int.emod_nonneg _ (by omega)
 have m2b : (x.1.2 * 7 + 3) % (x.1.1.length : Int) < x.1.1.length := Int.emod_lt_of_pos _ hLi
 obtain ⟨r1, r2⟩ := rdr _ m1a m1b
 obtain ⟨r3, r4⟩ := rdr _ m2a m2b
 have q1 : Int.tdiv x.1.2 (x.1.1.length : Int) = x.1.2 / (x.1.1.length : Int) := Int.tdiv_eq_ediv_of_nonneg h1
 have q1a : 0 ≤ x.1.2 / (x.1.1.length : Int) := Int.ediv_nonneg h1 (by omega)
 have q1b : x.1.2 / (x.1.1.length : Int) ≤ x.1.2 := Int.ediv_le_self _ h1
 have h64 : (!((64 : Int) == 0)) = true := rfl
 simp only [e4, m1, m2, q1, hl0, hn0, h64, aAg m1a m1b, aAg m2a m2b, cond_true]
 generalize x.1.2 / (x.1.1.length : Int) = q at *
 generalize aGl x.1.1 (x.1.2 % (x.1.1.length : Int)) = a at *
 generalize aGl x.1.1 ((x.1.2 * 7 + 3) % (x.1.1.length : Int)) = b at *
 have e5 : aG a = a := dD (by omega) (by omega)
 have e6 : aG b = b := dD (by omega) (by omega)
 have e7 : aG (a * 131) = a * 131 := dD (by omega) (by omega)
 have e8 : aG (b * 1117) = b * 1117 := dD (by omega) (by omega)
 have e9 : aG (a * 131 + b * 1117) = a * 131 + b * 1117 := dD (by omega) (by omega)
 have e10 : aG (x.1.2 * 29) = x.1.2 * 29 := dD (by omega) (by omega)
 have e11 : aG (a * 131 + b * 1117 + x.1.2 * 29) = a * 131 + b * 1117 + x.1.2 * 29 := dD (by omega) (by omega)
 have e12 : aG q = q := dD (by omega) (by omega)
 have e13 : aG (q * 53) = q * 53 := dD (by omega) (by omega)
 have e14 : aG (a * 131 + b * 1117 + x.1.2 * 29 + q * 53) = a * 131 + b * 1117 + x.1.2 * 29 + q * 53 := dD (by omega) (by omega)
 simp only [e5, e6, e7, e8, e9, e10, e11, e12, e13, e14]
 have s1 : 0 ≤ a * 131 + b * 1117 + x.1.2 * 29 + q * 53 := by omega
 have s2 : a * 131 + b * 1117 + x.1.2 * 29 + q * 53 < 1099511627776 := by omega
 generalize a * 131 + b * 1117 + x.1.2 * 29 + q * 53 = s at *
 have e15 : aG (Int.tdiv s 64) = s / 64 := by rw [Int.tdiv_eq_ediv_of_nonneg s1]; exact dD (by omega) (by omega)
 rw [e15]
 exact fin _ (aXg s1 (by omega) s2 (by omega)).1
end Ab
end
section
set_option maxRecDepth 100000
set_option linter.unusedVariables false
namespace Ab
open Go
set_option maxHeartbeats 4000000
attribute [local grind] inb dD eX eH aQ aF size_mk dL bL bV dB bW bN aW aZ bK bA
theorem bG (x : aI) : Tot (dK x) (fun y => y = (decide (x.2.1 ≤ x.1) && decide (x.1 ≤ x.2.2))) := by
 unfold dK; try dsimp only
 apply aB <;> intro hc
 ·apply aA
  grind
 apply aA
 grind
theorem iJ (x : Int) : Tot (iE x) (fun y => y = (decide (0 ≤ x) && decide (x ≤ 2))) := by
 unfold iE; try dsimp only
 refine aC (bG _) fun r1 hr1 => ?_
 apply aA
 grind [inb, eH, aF, size_mk]
theorem mI (x : Int) : Tot (yX x) (fun y => y = (decide (-9999 ≤ x) && decide (x ≤ 9999))) := by
 unfold yX; try dsimp only
 refine aC (bG _) fun r1 hr1 => ?_
 apply aA
 grind [inb, eH, aF, size_mk]
theorem aAd (x : bP) : Tot (qD x) (fun y => True) := by
 unfold qD; try dsimp only
 refine aC (bG _) fun r1 hr1 => ?_
 apply aB <;> intro hc
 ·refine aC (bG _) fun r2 hr2 => ?_
  apply aA
  grind
 apply aA
 grind
theorem yK (x : bP × bP) : Tot (rV x) (fun y => True) := by
 unfold rV; try dsimp only
 apply aB <;> intro hc
 ·apply aB <;> intro hc
  ·apply aA
   grind
  apply aA
  grind
 apply aA
 grind
theorem aFf (x : List bP × Int) (h0 : x.1.length ≤ 1000000) : Tot (aB2 x) (fun y => -1 ≤ y ∧ y < x.1.length) := by
 unfold aB2; try dsimp only
 refine aX (fun z2 => z2 ≤ (x.1.length : Int) ∧ 0 ≤ z2) (fun z2 => ((x.1.length : Int) - z2).toNat) fun L1 z2 hz1 hL1 => ?_
 apply aB <;> intro hc
 ·refine aH ?_
  apply aB <;> intro hc
  ·apply aA
   grind
  apply hL1 <;> grind
 apply aA
 grind
theorem aNk (x : RLock × bP) (h0 : x.1.2.1.length ≤ 1000000) (h1 : x.1.2.2.length ≤ 1000000) : Tot (aEb x) (fun y => True) := by
 unfold aEb; try dsimp only
 refine aX (fun z2 => z2.1 = x.1 ∧ z2.2.1 = x.2 ∧ z2.2.2 ≤ (z2.1.2.1.length : Int) ∧ 0 ≤ z2.2.2) (fun z2 => ((z2.1.2.1.length : Int) - z2.2.2).toNat) fun L1 z2 hz1 hL1 => ?_
 apply aB <;> intro hc
 ·refine aH ?_
  refine aC (yK _) fun r3 hr3 => ?_
  apply aB <;> intro hc
  ·apply aA
   grind
  apply hL1 <;> grind
 refine aX (fun z5 => z5.1 = z2.2.1 ∧ z5.2.1 = z2.1 ∧ z5.2.2 ≤ (z5.2.1.2.2.length : Int) ∧ 0 ≤ z5.2.2) (fun z5 => ((z5.2.1.2.2.length : Int) - z5.2.2).toNat) fun L4 z5 hz4 hL4 => ?_
 apply aB <;> intro hc
 ·refine aH ?_
  apply aB <;> intro hc
  ·refine aH ?_
   refine aC (yK _) fun r6 hr6 => ?_
   apply aB <;> intro hc
   ·apply aA
    grind
   apply hL4 <;> grind
  apply hL4 <;> grind
 apply aA
 grind
section
attribute [local grind] yA LockG
theorem aBp (x : RLock) (h0 : yA x) : Tot (xK x) (fun y => y = true → x.2.1.length + x.2.2.length ≤ 16) := by
 unfold xK; try dsimp only
 refine aC (bG _) fun r1 hr1 => ?_
 apply aB <;> intro hc
 ·apply aA
  grind
 apply aB <;> intro hc
 ·apply aA
  grind
 refine aX (fun z4 => z4.1 = x ∧ z4.2 ≤ (z4.1.2.1.length : Int) ∧ 0 ≤ z4.2) (fun z4 => ((z4.1.2.1.length : Int) - z4.2).toNat) fun L3 z4 hz3 hL3 => ?_
 apply aB <;> intro hc
 ·refine aH ?_
  refine aC (aAd _) fun r5 hr5 => ?_
  apply aB <;> intro hc
  ·apply aA
   grind
  apply aB <;> intro hc
  ·iterate 2 refine aH ?_
   apply aB <;> intro hc
   ·apply aA
    grind
   iterate 2 refine aH ?_
   refine aC (yK _) fun r7 hr7 => ?_
   apply aB <;> intro hc
   ·apply aA
    grind
   apply hL3 <;> grind
  apply hL3 <;> grind
 refine aX (fun z9 => z9.1 = z4.1 ∧ z9.2 ≤ (z9.1.2.2.length : Int) ∧ 0 ≤ z9.2) (fun z9 => ((z9.1.2.2.length : Int) - z9.2).toNat) fun L8 z9 hz8 hL8 => ?_
 apply aB <;> intro hc
 ·refine aH ?_
  refine aC (aAd _) fun r10 hr10 => ?_
  apply aB <;> intro hc
  ·apply aA
   grind
  refine aH ?_
  apply aB <;> intro hc
  ·apply aA
   grind
  apply aB <;> intro hc
  ·iterate 2 refine aH ?_
   apply aB <;> intro hc
   ·apply aA
    grind
   refine aX (fun z13 => z13.1 = z9.1 ∧ z13.2 ≤ (z13.1.2.1.length : Int) ∧ 0 ≤ z13.2) (fun z13 => ((z13.1.2.1.length : Int) - z13.2).toNat) fun L12 z13 hz12 hL12 => ?_
   apply aB <;> intro hc
   ·iterate 2 refine aH ?_
    apply aB <;> intro hc
    ·apply aA
     grind
    apply hL12 <;> grind
   apply hL8 <;> grind
  refine aX (fun z16 => z16.1 = z9.1 ∧ z16.2 ≤ (z16.1.2.1.length : Int) ∧ 0 ≤ z16.2) (fun z16 => ((z16.1.2.1.length : Int) - z16.2).toNat) fun L15 z16 hz15 hL15 => ?_
  apply aB <;> intro hc
  ·iterate 2 refine aH ?_
   apply aB <;> intro hc
   ·apply aA
    grind
   apply hL15 <;> grind
  apply hL8 <;> grind
 apply aA
 grind
end
theorem aH4 (x : List Int) (h0 : x.length ≤ 1000000) : Tot (xH x) (fun y => y = true → SlotsG x) := by
 unfold xH; try dsimp only
 refine aX (fun z2 => z2 ≤ (x.length : Int) ∧ 0 ≤ z2 ∧ (∀ k : Int, 0 ≤ k → k < z2 → k ≤ aV x k ∧ aV x k < (8 : Int))) (fun z2 => ((x.length : Int) - z2).toNat) fun L1 z2 hz1 hL1 => ?_
 apply aB <;> intro hc
 ·refine aH ?_
  refine aC (bG _) fun r3 hr3 => ?_
  apply aB <;> intro hc
  ·apply aA
   first | (intro h; cases h; done) | (intro _; refine SlotsG.intro ?_; grind)
  apply aB <;> intro hc
  ·iterate 2 refine aH ?_
   apply aB <;> intro hc
   ·apply aA
    first | (intro h; cases h; done) | (intro _; refine SlotsG.intro ?_; grind)
   apply hL1 <;> grind
  apply hL1 <;> grind
 apply aA
 first | (intro h; cases h; done) | (intro _; refine SlotsG.intro ?_; grind)
theorem aD2 (x : aY) (h0 : x.2.2.2.length ≤ 1000000) : Tot (wN x) (fun y => y = true → SlotsG x.2.2.2 ∧ 1 ≤ x.2.2.2.length) := by
 unfold wN; try dsimp only
 refine aC (bG _) fun r1 hr1 => ?_
 apply aB <;> intro hc
 ·apply aA
  grind
 refine aC (bG _) fun r2 hr2 => ?_
 apply aB <;> intro hc
 ·apply aA
  grind
 refine aC (bG _) fun r3 hr3 => ?_
 apply aB <;> intro hc
 ·apply aA
  grind
 apply aB <;> intro hc
 ·apply aA
  grind
 refine aC (aH4 _ (by grind)) fun r4 hr4 => ?_
 apply aB <;> intro hc
 ·apply aA
  grind
 apply aB <;> intro hc
 ·apply aA
  grind
 apply aA
 grind
theorem kG (x : List aN) (h0 : x.length ≤ 1000000) : Tot (iW x) (fun y => y = true → x.length ≤ 32) := by
 unfold iW; try dsimp only
 apply aB <;> intro hc
 ·apply aA
  grind
 refine aX (fun z2 => z2 ≤ (x.length : Int) ∧ 0 ≤ z2) (fun z2 => ((x.length : Int) - z2).toNat) fun L1 z2 hz1 hL1 => ?_
 apply aB <;> intro hc
 ·refine aH ?_
  refine aC (bG _) fun r3 hr3 => ?_
  apply aB <;> intro hc
  ·apply aA
   grind
  refine aH ?_
  refine aC (mI _) fun r4 hr4 => ?_
  apply aB <;> intro hc
  ·apply aA
   grind
  apply aB <;> intro hc
  ·iterate 2 refine aH ?_
   apply aB <;> intro hc
   ·apply aA
    grind
   apply hL1 <;> grind
  apply hL1 <;> grind
 apply aA
 grind
section
attribute [local grind] aQy RecG SlotsG
theorem aS1 (x : iN) (h0 : aQy x) : Tot (aBx x) (fun y => y = true → RecG x ∧ (x.1 = 1 ∨ x.1 = 2 ∨ x.1 = 3)) := by
 unfold aBx; try dsimp only
 apply aB <;> intro hc
 ·refine aC (aD2 _ (by grind)) fun r1 hr1 => ?_
  apply aB <;> intro hc
  ·apply aA
   grind
  apply aA
  grind
 apply aB <;> intro hc
 ·refine aC (bG _) fun r2 hr2 => ?_
  apply aB <;> intro hc
  ·refine aC (bG _) fun r3 hr3 => ?_
   apply aB <;> intro hc
   ·apply aB <;> intro hc
    ·apply aB <;> intro hc
     ·refine aC (kG _ (by grind)) fun r4 hr4 => ?_
      apply aA
      grind
     apply aA
     grind
    apply aA
    grind
   apply aA
   grind
  apply aA
  grind
 apply aB <;> intro hc
 ·apply aB <;> intro hc
  ·refine aC (bG _) fun r5 hr5 => ?_
   apply aB <;> intro hc
   ·refine aC (bG _) fun r6 hr6 => ?_
    apply aB <;> intro hc
    ·apply aB <;> intro hc
     ·apply aB <;> intro hc
      ·refine aC (kG _ (by grind)) fun r7 hr7 => ?_
       apply aA
       grind
      apply aA
      grind
     apply aA
     grind
    apply aA
    grind
   apply aA
   grind
  apply aA
  grind
 apply aA
 grind
end
theorem uY (x : List iN × Int × Int) (h0 : x.1.length ≤ 1000000) : Tot (pJ x) (fun y => -1 ≤ y ∧ y < x.1.length) := by
 unfold pJ; try dsimp only
 refine aX (fun z2 => z2 ≤ (x.1.length : Int) ∧ 0 ≤ z2) (fun z2 => ((x.1.length : Int) - z2).toNat) fun L1 z2 hz1 hL1 => ?_
 apply aB <;> intro hc
 ·refine aH ?_
  apply aB <;> intro hc
  ·refine aH ?_
   apply aB <;> intro hc
   ·refine aH ?_
    apply aB <;> intro hc
    ·apply aA
     grind
    apply hL1 <;> grind
   apply hL1 <;> grind
  apply hL1 <;> grind
 apply aA
 grind
theorem gW (x : List iN × Int × Int) (h0 : x.1.length ≤ 1000000) : Tot (fV x) (fun y => -1 ≤ y ∧ y < x.1.length ∧ (0 ≤ y → (bU x.1 y).1 = 1 ∧ (bU x.1 y).2.1 = x.2.1 ∧ (bU x.1 y).2.2.1 = x.2.2) ∧ (y < 0 → ∀ p ∈ x.1, ¬ (p.1 = 1 ∧ p.2.1 = x.2.1 ∧ p.2.2.1 = x.2.2))) := by
 unfold fV; try dsimp only
 refine aX (fun z2 => z2 ≤ (x.1.length : Int) ∧ 0 ≤ z2 ∧ (∀ k : Int, 0 ≤ k → k < z2 → ¬ ((bU x.1 k).1 = 1 ∧ (bU x.1 k).2.1 = x.2.1 ∧ (bU x.1 k).2.2.1 = x.2.2))) (fun z2 => ((x.1.length : Int) - z2).toNat) fun L1 z2 hz1 hL1 => ?_
 apply aB <;> intro hc
 ·refine aH ?_
  apply aB <;> intro hc
  ·refine aH ?_
   apply aB <;> intro hc
   ·refine aH ?_
    apply aB <;> intro hc
    ·apply aA
     first | grind | (refine ⟨by omega, by omega, by omega, fun _ => kT ?_⟩; grind)
    apply hL1 <;> grind
   apply hL1 <;> grind
  apply hL1 <;> grind
 apply aA
 first | grind | (refine ⟨by omega, by omega, by omega, fun _ => kT ?_⟩; grind)
section
attribute [local grind] Int.tdiv_eq_ediv_of_nonneg
theorem yL (x : Int) : Tot (rW x) (fun y => -1 ≤ y ∧ y < 8) := by
 unfold rW; try dsimp only
 refine aC (bG _) fun r1 hr1 => ?_
 apply aB <;> intro hc
 ·apply aA
  grind
 refine aH ?_
 apply aA
 grind
end
theorem wH (x : List Int × Int) (h0 : x.1.length ≤ 1000000) : Tot (sS x) (fun y => y = true → x.2 ∈ x.1) := by
 unfold sS; try dsimp only
 refine aX (fun z2 => z2 ≤ (x.1.length : Int) ∧ 0 ≤ z2) (fun z2 => ((x.1.length : Int) - z2).toNat) fun L1 z2 hz1 hL1 => ?_
 apply aB <;> intro hc
 ·refine aH ?_
  apply aB <;> intro hc
  ·apply aA
   grind
  apply hL1 <;> grind
 apply aA
 grind
theorem aPu (x : List aN × List Int) (h0 : x.1.length ≤ 1000000) (h1 : x.2.length ≤ 1000000) : Tot (yV x) (fun y => True) := by
 unfold yV; try dsimp only
 refine aX (fun z2 => z2 ≤ (x.1.length : Int) ∧ 0 ≤ z2) (fun z2 => ((x.1.length : Int) - z2).toNat) fun L1 z2 hz1 hL1 => ?_
 apply aB <;> intro hc
 ·refine aH ?_
  refine aC (yL _) fun r3 hr3 => ?_
  refine aC (wH _ (by grind)) fun r4 hr4 => ?_
  apply aB <;> intro hc
  ·apply aA
   grind
  apply hL1 <;> grind
 apply aA
 grind
section
attribute [local grind] aQy
theorem aS2 (x : List iN) (h0 : x.length ≤ 1000000) (h1 : ∀ r ∈ x, aQy r) : Tot (aBy x) (fun y => y = true → LogG x ∧ x.length ≤ 400) := by
 unfold aBy; try dsimp only
 apply aB <;> intro hc
 ·apply aA
  first | (intro h; cases h; done) | (intro _; refine ⟨⟨by grind, kT (P := RecG) (by grind), kT (P := fun d => d.1 = 2 → ∃ p ∈ x, p.1 = 1 ∧ p.2.1 = d.2.1 ∧ p.2.2.1 = d.2.2.1) (by grind)⟩, by grind⟩)
 refine aX (fun z2 => z2 ≤ (x.length : Int) ∧ 0 ≤ z2 ∧ (∀ k : Int, 0 ≤ k → k < z2 → RecG (bU x k) ∧ ((bU x k).1 = 2 → ∃ p ∈ x, p.1 = 1 ∧ p.2.1 = (bU x k).2.1 ∧ p.2.2.1 = (bU x k).2.2.1))) (fun z2 => ((x.length : Int) - z2).toNat) fun L1 z2 hz1 hL1 => ?_
 apply aB <;> intro hc
 ·refine aH ?_
  refine aC (aS1 _ (by grind)) fun r3 hr3 => ?_
  apply aB <;> intro hc
  ·apply aA
   first | (intro h; cases h; done) | (intro _; refine ⟨⟨by grind, kT (P := RecG) (by grind), kT (P := fun d => d.1 = 2 → ∃ p ∈ x, p.1 = 1 ∧ p.2.1 = d.2.1 ∧ p.2.2.1 = d.2.2.1) (by grind)⟩, by grind⟩)
  refine aH ?_
  refine aC (gW _ (by grind)) fun r4 hr4 => ?_
  apply aB <;> intro hc
  ·apply aB <;> intro hc
   ·apply aA
    first | (intro h; cases h; done) | (intro _; refine ⟨⟨by grind, kT (P := RecG) (by grind), kT (P := fun d => d.1 = 2 → ∃ p ∈ x, p.1 = 1 ∧ p.2.1 = d.2.1 ∧ p.2.2.1 = d.2.2.1) (by grind)⟩, by grind⟩)
   apply hL1 <;> grind
  apply aB <;> intro hc
  ·apply aA
   first | (intro h; cases h; done) | (intro _; refine ⟨⟨by grind, kT (P := RecG) (by grind), kT (P := fun d => d.1 = 2 → ∃ p ∈ x, p.1 = 1 ∧ p.2.1 = d.2.1 ∧ p.2.2.1 = d.2.2.1) (by grind)⟩, by grind⟩)
  refine aH ?_
  refine aC (uY _ (by grind)) fun r5 hr5 => ?_
  apply aB <;> intro hc
  ·apply aA
   first | (intro h; cases h; done) | (intro _; refine ⟨⟨by grind, kT (P := RecG) (by grind), kT (P := fun d => d.1 = 2 → ∃ p ∈ x, p.1 = 1 ∧ p.2.1 = d.2.1 ∧ p.2.2.1 = d.2.2.1) (by grind)⟩, by grind⟩)
  refine aH ?_
  refine aC (aPu _ (by grind [aF, size_mk, dL, bL, bV, dB, bW, bN, aW, aZ, bK, bA]) (by grind [aF, size_mk, dL, bL, bV, dB, bW, bN, aW, aZ, bK, bA])) fun r6 hr6 => ?_
  apply aB <;> intro hc
  ·apply aA
   first | (intro h; cases h; done) | (intro _; refine ⟨⟨by grind, kT (P := RecG) (by grind), kT (P := fun d => d.1 = 2 → ∃ p ∈ x, p.1 = 1 ∧ p.2.1 = d.2.1 ∧ p.2.2.1 = d.2.2.1) (by grind)⟩, by grind⟩)
  apply hL1 <;> grind [aF, size_mk, dL, bL, bV, dB, bW, bN, aW, aZ, bK, bA]
 apply aA
 first | (intro h; cases h; done) | (intro _; refine ⟨⟨by grind, kT (P := RecG) (by grind), kT (P := fun d => d.1 = 2 → ∃ p ∈ x, p.1 = 1 ∧ p.2.1 = d.2.1 ∧ p.2.2.1 = d.2.2.1) (by grind)⟩, by grind⟩)
end
section
attribute [local grind] aSg WorkG
theorem aNh (x : List aY) (h0 : x.length ≤ 1000000) (h1 : ∀ w ∈ x, aSg w) : Tot (vH x) (fun y => y = true → x.length ≤ 12 ∧ ∀ w ∈ x, WorkG w) := by
 unfold vH; try dsimp only
 apply aB <;> intro hc
 ·apply aA
  first | (intro h; cases h; done) | (intro _; exact ⟨by grind, nR (P := WorkG) (by grind)⟩)
 refine aX (fun z2 => z2 ≤ (x.length : Int) ∧ 0 ≤ z2 ∧ (∀ k : Int, 0 ≤ k → k < z2 → WorkG (aS x k))) (fun z2 => ((x.length : Int) - z2).toNat) fun L1 z2 hz1 hL1 => ?_
 apply aB <;> intro hc
 ·iterate 4 refine aH ?_
  refine aC (aD2 _ (by grind [aF, size_mk, dL, bL, bV, dB, bW, bN, aW, aZ, bK, bA])) fun r3 hr3 => ?_
  apply aB <;> intro hc
  ·apply aA
   first | (intro h; cases h; done) | (intro _; exact ⟨by grind, nR (P := WorkG) (by grind)⟩)
  apply aB <;> intro hc
  ·iterate 2 refine aH ?_
   apply aB <;> intro hc
   ·apply aA
    first | (intro h; cases h; done) | (intro _; exact ⟨by grind, nR (P := WorkG) (by grind)⟩)
   apply hL1 <;> grind
  apply hL1 <;> grind
 apply aA
 first | (intro h; cases h; done) | (intro _; exact ⟨by grind, nR (P := WorkG) (by grind)⟩)
end
section
attribute [local grind] aQy kL
theorem yJ (x : aO) (h0 : x.2.2.1.length ≤ 1000000) (h1 : ∀ r ∈ x.2.2.1, aQy r) : Tot (rU x) (fun y => y.length ≤ x.2.2.1.length ∧ ∀ r ∈ y, ∃ q ∈ x.2.2.1, q.1 = 1 ∧ r.2.2.2.2.1 = q.2.2.2.2.1) := by
 unfold rU; try dsimp only
 refine aX (fun z2 => z2.1 = x ∧ z2.2.2 ≤ (z2.1.2.2.1.length : Int) ∧ 0 ≤ z2.2.2 ∧ z2.2.1.length ≤ z2.2.2 ∧ (∀ r ∈ z2.2.1, ∃ q ∈ x.2.2.1, q.1 = 1 ∧ r.2.2.2.2.1 = q.2.2.2.2.1)) (fun z2 => ((z2.1.2.2.1.length : Int) - z2.2.2).toNat) fun L1 z2 hz1 hL1 => ?_
 apply aB <;> intro hc
 ·refine aH ?_
  apply aB <;> intro hc
  ·refine aC (uY _ (by grind)) fun r3 hr3 => ?_
   apply aB <;> intro hc
   ·iterate 2 refine dH (by grind [aF, size_mk, dL, bL, bV, dB, bW, bN, aW, aZ, bK, bA]) ?_
    apply hL1 <;> grind
   apply hL1 <;> grind
  apply hL1 <;> grind
 apply aA
 grind
end
section
attribute [local grind] SlotsG yA
theorem nW (x : aO × Int × Int × List Int × Bool) (h0 : SlotsG x.2.2.2.1) (h1 : x.1.2.2.2.2.1.length = 8) (h2 : ∀ l ∈ x.1.2.2.2.2.1, yA l) : Tot (lT x) (fun y => True) := by
 unfold lT; try dsimp only
 refine aX (fun z2 => z2.1 = x.1 ∧ z2.2 ≤ (x.2.2.2.1.length : Int) ∧ 0 ≤ z2.2) (fun z2 => ((x.2.2.2.1.length : Int) - z2.2).toNat) fun L1 z2 hz1 hL1 => ?_
 apply aB <;> intro hc
 ·iterate 2 refine aH ?_
  refine aC (aFf _ (by grind [aF, size_mk, dL, bL, bV, dB, bW, bN, aW, aZ, bK, bA])) fun r3 hr3 => ?_
  apply aB <;> intro hc
  ·apply aA
   grind
  refine aH ?_
  apply aB <;> intro hc
  ·apply aA
   grind
  apply aB <;> intro hc
  ·refine aH ?_
   apply aB <;> intro hc
   ·apply aA
    grind
   apply hL1 <;> grind
  apply hL1 <;> grind
 apply aA
 grind
end
section
attribute [local grind] aAi LogG RecG SlotsG
theorem aK0 (x : aO) (h0 : aAi x) (h1 : LogG x.2.2.1) (h2 : x.2.2.2.2.1.length = 8) : Tot (aAx x) (fun y => True) := by
 unfold aAx; try dsimp only
 refine aC (yJ _ (by grind) (by grind)) fun r1 hr1 => ?_
 refine aX (fun z3 => z3.1 = x ∧ z3.2.1 = r1 ∧ z3.2.2 ≤ (z3.2.1.length : Int) ∧ 0 ≤ z3.2.2) (fun z3 => ((z3.2.1.length : Int) - z3.2.2).toNat) fun L2 z3 hz2 hL2 => ?_
 apply aB <;> intro hc
 ·iterate 3 refine aH ?_
  refine aC (nW _ (by grind [aF, size_mk, dL, bL, bV, dB, bW, bN, aW, aZ, bK, bA]) (by grind [aF, size_mk, dL, bL, bV, dB, bW, bN, aW, aZ, bK, bA]) (by grind [aF, size_mk, dL, bL, bV, dB, bW, bN, aW, aZ, bK, bA])) fun r4 hr4 => ?_
  apply aB <;> intro hc
  ·apply aA
   grind
  apply hL2 <;> grind
 apply aA
 grind
end
section
attribute [local grind] aAi LockG
theorem pU (x : aO) (h0 : aAi x) : Tot (nZ x) (fun y => y = true → HouseG x ∧ x.2.2.1.length ≤ 400 ∧ x.2.2.2.2.2.length ≤ 12 ∧ 0 ≤ x.2.2.2.1 ∧ x.2.2.2.1 ≤ x.2.2.1.length) := by
 unfold nZ; try dsimp only
 refine aC (iJ _) fun r1 hr1 => ?_
 apply aB <;> intro hc
 ·apply aA
  first | (intro h; cases h; done) | (intro _; refine ⟨⟨by grind, by grind, lQ (P := LockG) (by grind), by grind, by grind⟩, by grind, by grind, by grind, by grind⟩)
 refine aC (aS2 _ (by grind) (by grind)) fun r2 hr2 => ?_
 apply aB <;> intro hc
 ·apply aA
  first | (intro h; cases h; done) | (intro _; refine ⟨⟨by grind, by grind, lQ (P := LockG) (by grind), by grind, by grind⟩, by grind, by grind, by grind, by grind⟩)
 refine aC (bG _) fun r3 hr3 => ?_
 apply aB <;> intro hc
 ·apply aA
  first | (intro h; cases h; done) | (intro _; refine ⟨⟨by grind, by grind, lQ (P := LockG) (by grind), by grind, by grind⟩, by grind, by grind, by grind, by grind⟩)
 refine aC (aNh _ (by grind) (by grind)) fun r4 hr4 => ?_
 apply aB <;> intro hc
 ·apply aA
  first | (intro h; cases h; done) | (intro _; refine ⟨⟨by grind, by grind, lQ (P := LockG) (by grind), by grind, by grind⟩, by grind, by grind, by grind, by grind⟩)
 apply aB <;> intro hc
 ·apply aA
  first | (intro h; cases h; done) | (intro _; refine ⟨⟨by grind, by grind, lQ (P := LockG) (by grind), by grind, by grind⟩, by grind, by grind, by grind, by grind⟩)
 refine aX (fun z6 => z6.1 = x ∧ z6.2 ≤ (z6.1.2.2.2.2.1.length : Int) ∧ 0 ≤ z6.2 ∧ (∀ k : Int, 0 ≤ k → k < z6.2 → LockG (iL x.2.2.2.2.1 k))) (fun z6 => ((z6.1.2.2.2.2.1.length : Int) - z6.2).toNat) fun L5 z6 hz5 hL5 => ?_
 apply aB <;> intro hc
 ·refine aH ?_
  refine aC (aBp _ (by grind)) fun r7 hr7 => ?_
  apply aB <;> intro hc
  ·apply aA
   first | (intro h; cases h; done) | (intro _; refine ⟨⟨by grind, by grind, lQ (P := LockG) (by grind), by grind, by grind⟩, by grind, by grind, by grind, by grind⟩)
  refine aH ?_
  apply aB <;> intro hc
  ·apply aA
   first | (intro h; cases h; done) | (intro _; refine ⟨⟨by grind, by grind, lQ (P := LockG) (by grind), by grind, by grind⟩, by grind, by grind, by grind, by grind⟩)
  apply aB <;> intro hc
  ·iterate 2 refine aH ?_
   apply aB <;> intro hc
   ·apply aA
    first | (intro h; cases h; done) | (intro _; refine ⟨⟨by grind, by grind, lQ (P := LockG) (by grind), by grind, by grind⟩, by grind, by grind, by grind, by grind⟩)
   apply hL5 <;> grind
  apply hL5 <;> grind
 apply aB <;> intro hc
 ·apply aB <;> intro hc
  ·apply aA
   first | (intro h; cases h; done) | (intro _; refine ⟨⟨by grind, by grind, lQ (P := LockG) (by grind), by grind, by grind⟩, by grind, by grind, by grind, by grind⟩)
  apply aB <;> intro hc
  ·refine aC (aK0 _ (by grind) (by grind) (by grind)) fun r9 hr9 => ?_
   apply aA
   first | (intro h; cases h; done) | (intro _; refine ⟨⟨by grind, by grind, lQ (P := LockG) (by grind), by grind, by grind⟩, by grind, by grind, by grind, by grind⟩)
  apply aA
  first | (intro h; cases h; done) | (intro _; refine ⟨⟨by grind, by grind, lQ (P := LockG) (by grind), by grind, by grind⟩, by grind, by grind, by grind, by grind⟩)
 apply aB <;> intro hc
 ·refine aC (aK0 _ (by grind) (by grind) (by grind)) fun r10 hr10 => ?_
  apply aA
  first | (intro h; cases h; done) | (intro _; refine ⟨⟨by grind, by grind, lQ (P := LockG) (by grind), by grind, by grind⟩, by grind, by grind, by grind, by grind⟩)
 apply aA
 first | (intro h; cases h; done) | (intro _; refine ⟨⟨by grind, by grind, lQ (P := LockG) (by grind), by grind, by grind⟩, by grind, by grind, by grind, by grind⟩)
end
end Ab
end
section
set_option maxRecDepth 100000
set_option linter.unusedVariables false
namespace Ab
open Go
set_option maxHeartbeats 4000000
attribute [local grind] inb dD eX eH aQ aF size_mk dL bL bV dB bW bN aW aZ bK bA
section
attribute [local grind] yA kL
theorem tQ (x : RLock) (h0 : yA x) : Tot (qE x) (fun y => y = x) := by
 unfold qE; try dsimp only
 refine dO (by first | rfl | simp only [dC]) ?_
 refine dO (by first | rfl | simp only [dC]) ?_
 iterate 2 refine aH ?_
 apply aA
 grind
end
section
attribute [local grind] aAi aQy aSg bY bCm bA4 aAo kL
theorem kF (x : aO) (h0 : aAi x) : Tot (jU x) (fun y => y = x) := by
 unfold jU; try dsimp only
 simp only [List.nil_append, aEh]
 refine aX (fun z2 => z2.1 = x ∧ z2.2.1.1 = 0 ∧ z2.2.1.2.1 = false ∧ z2.2.1.2.2.1 = [] ∧ z2.2.1.2.2.2.1 = 0 ∧ z2.2.1.2.2.2.2.1 = [] ∧ z2.2.1.2.2.2.2.2 = [] ∧ z2.2.2.1.1 = x.1 ∧ z2.2.2.1.2.1 = x.2.1 ∧ z2.2.2.1.2.2.2.1 = x.2.2.2.1 ∧ z2.2.2.1.2.2.2.2.1 = [] ∧ z2.2.2.1.2.2.2.2.2 = [] ∧ z2.2.2.2 ≤ (z2.1.2.2.1.length : Int) ∧ 0 ≤ z2.2.2.2 ∧ z2.2.2.1.2.2.1 = x.2.2.1.take z2.2.2.2.toNat) (fun z2 => ((z2.1.2.2.1.length : Int) - z2.2.2.2).toNat) fun L1 z2 hz1 hL1 => ?_
 apply aB <;> intro hc
 ·iterate 4 refine dH (by grind [aF, size_mk, dL, bL, bV, dB, bW, bN, aW, aZ, bK, bA]) ?_
  apply hL1 <;> grind
 refine aX (fun z7 => z7.1.1 = z2.2.2.1.1 ∧ z7.1.2.1 = z2.2.2.1.2.1 ∧ z7.1.2.2.1 = z2.2.2.1.2.2.1 ∧ z7.1.2.2.2.1 = z2.2.2.1.2.2.2.1 ∧ z7.1.2.2.2.2.2 = z2.2.2.1.2.2.2.2.2 ∧ z7.2.1 = z2.2.1 ∧ z7.2.2.1 = z2.1 ∧ z7.2.2.2 ≤ (z7.2.2.1.2.2.2.2.1.length : Int) ∧ 0 ≤ z7.2.2.2 ∧ z7.1.2.2.2.2.1 = x.2.2.2.2.1.take z7.2.2.2.toNat) (fun z7 => ((z7.2.2.1.2.2.2.2.1.length : Int) - z7.2.2.2).toNat) fun L6 z7 hz6 hL6 => ?_
 apply aB <;> intro hc
 ·refine aH ?_
  refine aC (tQ _ (by grind)) fun r9 hr9 => ?_
  refine aH ?_
  apply hL6 <;> grind
 refine aX (fun z11 => z11.1 = z7.2.2.1 ∧ z11.2.1 = z7.2.1 ∧ z11.2.2.1.1 = z7.1.1 ∧ z11.2.2.1.2.1 = z7.1.2.1 ∧ z11.2.2.1.2.2.1 = z7.1.2.2.1 ∧ z11.2.2.1.2.2.2.1 = z7.1.2.2.2.1 ∧ z11.2.2.1.2.2.2.2.1 = z7.1.2.2.2.2.1 ∧ z11.2.2.2 ≤ (z11.1.2.2.2.2.2.length : Int) ∧ 0 ≤ z11.2.2.2 ∧ z11.2.2.1.2.2.2.2.2 = x.2.2.2.2.2.take z11.2.2.2.toNat) (fun z11 => ((z11.1.2.2.2.2.2.length : Int) - z11.2.2.2).toNat) fun L10 z11 hz10 hL10 => ?_
 apply aB <;> intro hc
 ·iterate 3 refine dH (by grind [aF, size_mk, dL, bL, bV, dB, bW, bN, aW, aZ, bK, bA]) ?_
  apply hL10 <;> grind
 apply aA
 grind
end
theorem aD1 (x : List aN × Int) (h0 : x.1.length ≤ 1000000) : Tot (qP x) (fun y => y.length ≤ x.1.length) := by
 unfold qP; try dsimp only
 refine aX (fun z2 => z2.2 ≤ (x.1.length : Int) ∧ 0 ≤ z2.2 ∧ z2.1.length ≤ z2.2) (fun z2 => ((x.1.length : Int) - z2.2).toNat) fun L1 z2 hz1 hL1 => ?_
 apply aB <;> intro hc
 ·refine aH ?_
  refine aC (yL _) fun r3 hr3 => ?_
  apply aB <;> intro hc
  ·iterate 2 refine aH ?_
   apply hL1 <;> grind
  apply hL1 <;> grind
 apply aA
 grind
theorem aQ9 (x : List aN × Int) (h0 : x.1.length ≤ 1000000) : Tot (aB0 x) (fun y => True) := by
 unfold aB0; try dsimp only
 refine aX (fun z2 => z2 ≤ (x.1.length : Int) ∧ 0 ≤ z2) (fun z2 => ((x.1.length : Int) - z2).toNat) fun L1 z2 hz1 hL1 => ?_
 apply aB <;> intro hc
 ·refine aH ?_
  apply aB <;> intro hc
  ·refine aH ?_
   apply aA
   grind
  apply hL1 <;> grind
 apply aA
 grind
theorem uZ (x : List aN × List aN) (h0 : x.1.length ≤ 1000000) (h1 : x.2.length ≤ 1000000) : Tot (lU x) (fun y => y.length ≤ 32) := by
 unfold lU; try dsimp only
 refine aC (kG _ (by grind)) fun r1 hr1 => ?_
 apply aB <;> intro hc
 ·apply aA
  grind
 refine aC (kG _ (by grind)) fun r2 hr2 => ?_
 apply aB <;> intro hc
 ·apply aA
  grind
 refine aX (fun z4 => z4.2 ≤ 32 ∧ 0 ≤ z4.2 ∧ z4.1.length ≤ z4.2) (fun z4 => (32 - z4.2).toNat) fun L3 z4 hz3 hL3 => ?_
 apply aB <;> intro hc
 ·refine aC (aQ9 _ (by grind)) fun r5 hr5 => ?_
  refine aX (fun z7 => z7.1 = z4.1 ∧ z7.2.2 ≤ (x.2.length : Int) ∧ 0 ≤ z7.2.2) (fun z7 => ((x.2.length : Int) - z7.2.2).toNat) fun L6 z7 hz6 hL6 => ?_
  apply aB <;> intro hc
  ·refine aH ?_
   apply aB <;> intro hc
   ·refine aH ?_
    apply hL6 <;> grind
   apply hL6 <;> grind
  apply aB <;> intro hc
  ·refine aH ?_
   apply hL3 <;> grind
  apply hL3 <;> grind
 apply aA
 grind
section
attribute [local grind] Int.tmod_eq_emod_of_nonneg jA
theorem vB (x : Unit) : Tot (lV x) (fun y => jA y) := by
 unfold lV; try dsimp only
 refine aX (fun z2 => z2.1.1 = 0 ∧ z2.1.2 = [] ∧ z2.2.1.1 = 1 ∧ z2.2.2 ≤ 8 ∧ 0 ≤ z2.2.2 ∧ z2.2.1.1 = 1 ∧ z2.2.1.2.length = z2.2.2 ∧ (∀ o ∈ z2.2.1.2, 0 ≤ o ∧ o ≤ 2)) (fun z2 => (8 - z2.2.2).toNat) fun L1 z2 hz1 hL1 => ?_
 apply aB <;> intro hc
 ·iterate 2 refine aH ?_
  apply hL1 <;> grind
 apply aA
 grind
end
section
attribute [local grind] HouseG LogG RecG SlotsG jA
theorem aH3 (x : aO) (h0 : HouseG x) : Tot (xG x) (fun y => y.1.length ≤ 8 ∧ y.2.length ≤ 32) := by
 unfold xG; try dsimp only
 refine aC (vB _) fun r1 hr1 => ?_
 refine aX (fun z3 => z3.1 = x ∧ z3.2.1 = r1 ∧ z3.2.2.2.1 = [] ∧ z3.2.2.2.2 ≤ 8 ∧ 0 ≤ z3.2.2.2.2 ∧ z3.2.2.1.length = z3.2.2.2.2) (fun z3 => (8 - z3.2.2.2.2).toNat) fun L2 z3 hz2 hL2 => ?_
 apply aB <;> intro hc
 ·iterate 2 refine aH ?_
  apply hL2 <;> grind
 refine aX (fun z6 => z6.2.2.2 ≤ (z6.2.2.1.2.2.1.length : Int) ∧ 0 ≤ z6.2.2.2 ∧ z6.2.2.1 = x ∧ z6.2.1.length = 8 ∧ z6.1.length ≤ 32) (fun z6 => ((z6.2.2.1.2.2.1.length : Int) - z6.2.2.2).toNat) fun L5 z6 hz5 hL5 => ?_
 apply aB <;> intro hc
 ·refine aH ?_
  apply aB <;> intro hc
  ·apply hL5 <;> grind
  refine bF (P := fun (z10 : aO × List Bool × List aN × iN) => z10.1 = x ∧ z10.2.1 = z6.2.1 ∧ z10.2.2.1 = z6.1 ∧ RecG z10.2.2.2 ∧ z10.2.2.2.1 = 1) ?_ fun z10 hz => ?_
  ·iterate 2 refine aH ?_
   refine dO (by first | rfl | simp only [dC]) ?_
   refine aC (gW _ (by grind)) fun r8 hr8 => ?_
   refine aH ?_
   apply aA
   grind
  apply aB <;> intro hc
  ·iterate 3 refine aH ?_
   refine aC (aD1 _ (by grind)) fun r12 hr12 => ?_
   apply hL5 <;> grind
  apply aB <;> intro hc
  ·iterate 4 refine aH ?_
   refine aC (aD1 _ (by grind)) fun r13 hr13 => ?_
   refine aC (uZ _ (by grind) (by grind)) fun r14 hr14 => ?_
   apply hL5 <;> grind
  refine aH ?_
  refine aC (uZ _ (by grind) (by grind)) fun r15 hr15 => ?_
  apply hL5 <;> grind
 refine aX (fun z17 => z17.1 = z6.2.1 ∧ z17.2.1 = z6.1 ∧ z17.2.2.2 ≤ 8 ∧ 0 ≤ z17.2.2.2 ∧ z17.2.2.1.length ≤ z17.2.2.2) (fun z17 => (8 - z17.2.2.2).toNat) fun L16 z17 hz16 hL16 => ?_
 apply aB <;> intro hc
 ·refine aH ?_
  apply aB <;> intro hc
  ·refine aH ?_
   apply hL16 <;> grind
  apply hL16 <;> grind
 apply aA
 grind
end
theorem aKz (x : aO × Int × List Int) (h0 : HouseG x.1) (h1 : x.2.2.length ≤ 1000000) : Tot (aAw x) (fun y => True) := by
 unfold aAw; try dsimp only
 refine aC (aH3 _ (by grind)) fun r1 hr1 => ?_
 refine aX (fun z3 => z3.1 = r1.1 ∧ z3.2 ≤ (x.2.2.length : Int) ∧ 0 ≤ z3.2) (fun z3 => ((x.2.2.length : Int) - z3.2).toNat) fun L2 z3 hz2 hL2 => ?_
 apply aB <;> intro hc
 ·refine aH ?_
  refine aC (wH _ (by grind)) fun r4 hr4 => ?_
  apply aB <;> intro hc
  ·apply aA
   grind
  apply hL2 <;> grind
 apply aA
 grind
theorem nC (x : aO × Int × Int × Int) : Tot (mO x) (fun y => dV y) := by
 unfold mO; try dsimp only
 apply aA
 grind [inb, eH, aF, size_mk, dV, ByteArray.size]
section
attribute [local grind] WorkG SlotsG
theorem aAc (x : aO × aY) (h0 : HouseG x.1) (h1 : WorkG x.2) : Tot (qC x) (fun y => dV y) := by
 unfold qC; try dsimp only
 refine aC (aKz _ (by grind) (by grind)) fun r1 hr1 => ?_
 apply aB <;> intro hc
 ·refine aC (nC _) fun r2 hr2 => ?_
  apply aA
  grind
 refine aC (nC _) fun r3 hr3 => ?_
 apply aA
 grind
end
theorem kW (x : aO × Int × Int) (h0 : x.1.2.2.2.2.2.length ≤ 1000000) : Tot (iK x) (fun y => y.1 = x.1.1 ∧ y.2.1 = x.1.2.1 ∧ y.2.2.1 = x.1.2.2.1 ∧ y.2.2.2.1 = x.1.2.2.2.1 ∧ y.2.2.2.2.1 = x.1.2.2.2.2.1 ∧ y.2.2.2.2.2.length ≤ x.1.2.2.2.2.2.length ∧ ∀ w ∈ y.2.2.2.2.2, w ∈ x.1.2.2.2.2.2) := by
 unfold iK; try dsimp only
 refine aX (fun z2 => z2.1 = x.1 ∧ z2.2.1.1 = 0 ∧ z2.2.1.2.1 = false ∧ z2.2.1.2.2.1 = [] ∧ z2.2.1.2.2.2.1 = 0 ∧ z2.2.1.2.2.2.2.1 = [] ∧ z2.2.1.2.2.2.2.2 = [] ∧ z2.2.2.2 ≤ (z2.1.2.2.2.2.2.length : Int) ∧ 0 ≤ z2.2.2.2 ∧ z2.2.2.1.length ≤ z2.2.2.2 ∧ (∀ w ∈ z2.2.2.1, w ∈ x.1.2.2.2.2.2)) (fun z2 => ((z2.1.2.2.2.2.2.length : Int) - z2.2.2.2).toNat) fun L1 z2 hz1 hL1 => ?_
 apply aB <;> intro hc
 ·refine aH ?_
  apply aB <;> intro hc
  ·iterate 2 refine aH ?_
   apply hL1 <;> grind
  refine aH ?_
  apply aB <;> intro hc
  ·iterate 2 refine aH ?_
   apply hL1 <;> grind
  apply hL1 <;> grind
 apply aA
 grind
theorem aVd (x : aO × Int × Int) (h0 : x.1.2.2.2.2.2.length ≤ 1000000) : Tot (aFp x) (fun y => y.1 = x.1.1 ∧ y.2.1 = x.1.2.1 ∧ y.2.2.1 = x.1.2.2.1 ∧ y.2.2.2.1 = x.1.2.2.2.1 ∧ y.2.2.2.2.1 = x.1.2.2.2.2.1 ∧ y.2.2.2.2.2.length ≤ x.1.2.2.2.2.2.length ∧ ∀ w ∈ y.2.2.2.2.2, w ∈ x.1.2.2.2.2.2) := by
 unfold aFp; try dsimp only
 refine aX (fun z2 => z2.1 = x.1 ∧ z2.2.1.1 = 0 ∧ z2.2.1.2.1 = false ∧ z2.2.1.2.2.1 = [] ∧ z2.2.1.2.2.2.1 = 0 ∧ z2.2.1.2.2.2.2.1 = [] ∧ z2.2.1.2.2.2.2.2 = [] ∧ z2.2.2.2 ≤ (z2.1.2.2.2.2.2.length : Int) ∧ 0 ≤ z2.2.2.2 ∧ z2.2.2.1.length ≤ z2.2.2.2 ∧ (∀ w ∈ z2.2.2.1, w ∈ x.1.2.2.2.2.2)) (fun z2 => ((z2.1.2.2.2.2.2.length : Int) - z2.2.2.2).toNat) fun L1 z2 hz1 hL1 => ?_
 apply aB <;> intro hc
 ·refine aH ?_
  apply aB <;> intro hc
  ·iterate 2 refine aH ?_
   apply hL1 <;> grind
  refine aH ?_
  apply aB <;> intro hc
  ·iterate 2 refine aH ?_
   apply hL1 <;> grind
  apply hL1 <;> grind
 apply aA
 grind
theorem nG (x : List bP × Int × Int) (h0 : x.1.length ≤ 1000000) : Tot (kH x) (fun y => y.length ≤ x.1.length) := by
 unfold kH; try dsimp only
 refine aX (fun z2 => z2.2 ≤ (x.1.length : Int) ∧ 0 ≤ z2.2 ∧ z2.1.length ≤ z2.2) (fun z2 => ((x.1.length : Int) - z2.2).toNat) fun L1 z2 hz1 hL1 => ?_
 apply aB <;> intro hc
 ·refine aH ?_
  apply aB <;> intro hc
  ·iterate 2 refine aH ?_
   apply hL1 <;> grind
  refine aH ?_
  apply aB <;> intro hc
  ·iterate 2 refine aH ?_
   apply hL1 <;> grind
  apply hL1 <;> grind
 apply aA
 grind
theorem aBo (x : List bP × bP) (h0 : x.1.length ≤ 1000000) : Tot (xJ x) (fun y => y.length ≤ x.1.length + 1) := by
 unfold xJ; try dsimp only
 refine aX (fun z2 => z2.2.2.2 ≤ (x.1.length : Int) ∧ 0 ≤ z2.2.2.2 ∧ z2.2.1.length ≤ z2.2.2.2 + (if z2.2.2.1 then 1 else 0) ∧ z2.1 = x.2) (fun z2 => ((x.1.length : Int) - z2.2.2.2).toNat) fun L1 z2 hz1 hL1 => ?_
 apply aB <;> intro hc
 ·refine bF (P := fun (z3 : bP × List bP × Bool) => z3.1 = x.2 ∧ z3.2.1.length ≤ z2.2.2.2 + (if z3.2.2 then 1 else 0)) ?_ fun z3 hz => ?_
  ·apply aB <;> intro hc
   ·refine aH ?_
    apply aB <;> intro hc
    ·refine aH ?_
     apply aA
     grind
    apply aA
    grind
   apply aA
   grind
  iterate 2 refine aH ?_
  apply hL1 <;> grind
 apply aB <;> intro hc
 ·refine aH ?_
  apply aA
  grind
 apply aA
 grind
section
attribute [local grind] yA LockG
theorem aS3 (x : RLock × Int × Int) (h0 : yA x.1) : Tot (aB4 x) (fun y => LockG y.1 ∧ y.2.length ≤ 16) := by
 unfold aB4; try dsimp only
 refine aC (aBp _ (by grind)) fun r1 hr1 => ?_
 apply aB <;> intro hc
 ·apply aA
  grind
 refine aC (tQ _ (by grind)) fun r2 hr2 => ?_
 refine aC (nG _ (by grind)) fun r3 hr3 => ?_
 refine aC (nG _ (by grind)) fun r4 hr4 => ?_
 refine aX (fun z6 => z6.1.1 = 0 ∧ z6.1.2.1 = [] ∧ z6.1.2.2 = [] ∧ z6.2.2.1.1 = r2.1 ∧ z6.2.2.2.1 = r4 ∧ z6.2.2.2.2 ≤ (z6.2.2.2.1.length : Int) ∧ 0 ≤ z6.2.2.2.2 ∧ z6.2.2.1.2.1.length ≤ r3.length + z6.2.2.2.2 ∧ z6.2.1.length ≤ z6.2.2.2.2 ∧ z6.2.2.1.2.2.length ≤ r4.length ∧ z6.2.2.2.1 = r4) (fun z6 => ((z6.2.2.2.1.length : Int) - z6.2.2.2.2).toNat) fun L5 z6 hz5 hL5 => ?_
 apply aB <;> intro hc
 ·refine aH ?_
  refine aC (aNk _ (by grind) (by grind)) fun r7 hr7 => ?_
  apply aB <;> intro hc
  ·iterate 2 refine aH ?_
   refine aC (nG _ (by grind)) fun r8 hr8 => ?_
   refine aH ?_
   refine aC (aBo _ (by grind)) fun r9 hr9 => ?_
   iterate 2 refine aH ?_
   apply hL5 <;> grind
  apply hL5 <;> grind
 apply aA
 grind
end
theorem tO (x : List aY × Int) (h0 : x.1.length ≤ 1000000) : Tot (qB x) (fun y => -1 ≤ y ∧ y < x.1.length) := by
 unfold qB; try dsimp only
 refine aX (fun z2 => z2 ≤ (x.1.length : Int) ∧ 0 ≤ z2) (fun z2 => ((x.1.length : Int) - z2).toNat) fun L1 z2 hz1 hL1 => ?_
 apply aB <;> intro hc
 ·refine aH ?_
  apply aB <;> intro hc
  ·apply aA
   grind
  apply hL1 <;> grind
 apply aA
 grind
section
attribute [local grind] HouseG HouseG.w WorkG LockG.w
theorem pR (x : aO × Int × Int) (h0 : HouseG x.1) : Tot (kZ x) (fun y => HouseG y.1 ∧ y.1.2.2.2.2.2 = x.1.2.2.2.2.2 ∧ y.2.length ≤ 1000 ∧ ∀ w ∈ y.2, dV w) := by
 unfold kZ; try dsimp only
 refine aC (kF _ (by grind)) fun r1 hr1 => ?_
 refine aX (fun z3 => z3.1.1 = x.1.1 ∧ z3.1.2.1 = x.1.2.1 ∧ z3.1.2.2.1 = x.1.2.2.1 ∧ z3.1.2.2.2.1 = x.1.2.2.2.1 ∧ z3.1.2.2.2.2.2 = x.1.2.2.2.2.2 ∧ z3.2.1.1 = 0 ∧ z3.2.1.2.1 = false ∧ z3.2.1.2.2.1 = [] ∧ z3.2.1.2.2.2.1 = 0 ∧ z3.2.1.2.2.2.2.1 = [] ∧ z3.2.1.2.2.2.2.2 = [] ∧ z3.2.2.1 = [] ∧ z3.2.2.2.1 = r1 ∧ z3.2.2.2.2 ≤ (z3.1.2.2.2.2.1.length : Int) ∧ 0 ≤ z3.2.2.2.2 ∧ HouseG z3.1 ∧ z3.1.2.2.2.2.2 = x.1.2.2.2.2.2) (fun z3 => ((z3.1.2.2.2.2.1.length : Int) - z3.2.2.2.2).toNat) fun L2 z3 hz2 hL2 => ?_
 apply aB <;> intro hc
 ·refine aH ?_
  refine aC (aS3 _ (by grind)) fun r5 hr5 => ?_
  refine aH ?_
  apply hL2 <;> grind
 refine aX (fun z7 => z7.1 = z3.2.2.2.1 ∧ z7.2.2.1 = z3.2.1 ∧ z7.2.2.2.1 = z3.1 ∧ z7.2.2.2.2 ≤ (z7.2.2.2.1.2.2.2.2.2.length : Int) ∧ 0 ≤ z7.2.2.2.2 ∧ HouseG z7.2.2.2.1 ∧ z7.2.2.2.1.2.2.2.2.2 = x.1.2.2.2.2.2 ∧ HouseG z7.1 ∧ z7.2.1.length ≤ z7.2.2.2.2 ∧ (∀ w ∈ z7.2.1, dV w)) (fun z7 => ((z7.2.2.2.1.2.2.2.2.2.length : Int) - z7.2.2.2.2).toNat) fun L6 z7 hz6 hL6 => ?_
 apply aB <;> intro hc
 ·refine aH ?_
  apply aB <;> intro hc
  ·refine aC (nW _ (by grind [aF, size_mk, dL, bL, bV, dB, bW, bN, aW, aZ, bK, bA]) (by grind [aF, size_mk, dL, bL, bV, dB, bW, bN, aW, aZ, bK, bA]) (by grind [aF, size_mk, dL, bL, bV, dB, bW, bN, aW, aZ, bK, bA])) fun r10 hr10 => ?_
   apply aB <;> intro hc
   ·refine aC (nW _ (by grind [aF, size_mk, dL, bL, bV, dB, bW, bN, aW, aZ, bK, bA]) (by grind [aF, size_mk, dL, bL, bV, dB, bW, bN, aW, aZ, bK, bA]) (by grind [aF, size_mk, dL, bL, bV, dB, bW, bN, aW, aZ, bK, bA])) fun r11 hr11 => ?_
    apply aB <;> intro hc
    ·refine aC (aAc _ (by grind) (by grind)) fun r12 hr12 => ?_
     refine aH ?_
     apply hL6 <;> grind
    apply hL6 <;> grind
   apply hL6 <;> grind
  apply hL6 <;> grind
 apply aA
 grind
end
end Ab
end
section
set_option maxRecDepth 100000
set_option linter.unusedVariables false
namespace Ab
open Go
set_option maxHeartbeats 4000000
attribute [local grind] inb dD eX eH aQ aF size_mk dL bL bV dB bW bN aW aZ bK bA
section
attribute [local grind] yA LockG
theorem aVf (x : RLock × bP) (h0 : yA x.1) : Tot (aAz x) (fun y => LockG y.1 ∧ y.2.2.length ≤ 16) := by
 unfold aAz; try dsimp only
 refine aC (aBp _ (by grind)) fun r1 hr1 => ?_
 apply aB <;> intro hc
 ·apply aA
  grind
 refine aC (tQ _ (by grind)) fun r2 hr2 => ?_
 refine aC (aAd _) fun r3 hr3 => ?_
 apply aB <;> intro hc
 ·apply aA
  grind
 apply aB <;> intro hc
 ·apply aA
  grind
 refine aC (aFf _ (by grind)) fun r4 hr4 => ?_
 refine bF (P := fun (z7 : RLock × bP × RLock × List bP × RLock) => z7.1 = x.1 ∧ z7.2.1 = x.2 ∧ z7.2.2.2.1 = [] ∧ z7.2.2.2.2 = x.1) ?_ fun z7 hz => ?_
 ·refine bF (P := fun (z5 : RLock × bP × RLock × List bP × RLock × Bool) => z5.1 = x.1 ∧ z5.2.1 = x.2 ∧ z5.2.2.2.1 = [] ∧ z5.2.2.2.2.1 = x.1 ∧ (z5.2.2.2.2.2 = true → 0 ≤ r4)) ?_ fun z5 hz => ?_
  ·apply aB <;> intro hc
   ·refine aH ?_
    apply aB <;> intro hc
    ·apply aA
     grind
    refine aH ?_
    apply aA
    grind
   apply aA
   grind
  apply aB <;> intro hc
  ·refine aH ?_
   apply aA
   grind
  apply aA
  grind
 refine aC (aFf _ (by grind)) fun r8 hr8 => ?_
 refine bF (P := fun (z11 : RLock × bP × RLock × List bP × RLock) => z11.1 = x.1 ∧ z11.2.1 = x.2 ∧ z11.2.2.2.1 = [] ∧ z11.2.2.2.2 = x.1) ?_ fun z11 hz => ?_
 ·refine bF (P := fun (z10 : RLock × bP × RLock × List bP × RLock × Bool) => z10.1 = x.1 ∧ z10.2.1 = x.2 ∧ z10.2.2.2.1 = [] ∧ z10.2.2.2.2.1 = x.1) ?_ fun z10 hz => ?_
  ·apply aB <;> intro hc
   ·refine aH ?_
    apply aA
    grind
   apply aA
   grind
  apply aB <;> intro hc
  ·apply aA
   grind
  apply aA
  grind
 refine aC (nG _ (by grind)) fun r12 hr12 => ?_
 refine aC (nG _ (by grind)) fun r13 hr13 => ?_
 refine aX (fun z15 => z15.2.2.2.2.2.2.2 ≤ (z15.2.2.2.2.1.2.1.length : Int) ∧ 0 ≤ z15.2.2.2.2.2.2.2 ∧ z15.1 = x.1 ∧ z15.2.2.2.1 = [] ∧ z15.2.2.2.2.1.2.1.length ≤ 16 ∧ z15.2.2.2.2.1.2.2.length ≤ 16 ∧ 0 ≤ z15.2.2.2.2.2.2.2 ∧ z15.2.2.2.2.2.1.length ≤ z15.2.2.2.2.2.2.2 ∧ z15.2.2.2.2.2.2.1.length ≤ z15.2.2.2.2.2.2.2) (fun z15 => ((z15.2.2.2.2.1.2.1.length : Int) - z15.2.2.2.2.2.2.2).toNat) fun L14 z15 hz14 hL14 => ?_
 apply aB <;> intro hc
 ·refine bF (P := fun (z23 : RLock × bP × RLock × List bP × RLock × List bP × List bP) => z23.1 = x.1 ∧ z23.2.2.2.1 = [] ∧ z23.2.2.2.2.1.2.1.length ≤ 16 ∧ z23.2.2.2.2.1.2.2.length ≤ 16 ∧ z23.2.2.2.2.1 = z15.2.2.2.2.1 ∧ z23.2.2.2.2.2.1.length ≤ z15.2.2.2.2.2.2.2 + 1 ∧ z23.2.2.2.2.2.2.length ≤ z15.2.2.2.2.2.2.2 + 1) ?_ fun z23 hz => ?_
  ·refine aH ?_
   refine bF (P := fun (z20 : RLock × bP × RLock × List bP × RLock × List bP × List bP × bP × Bool) => z20.1 = x.1 ∧ z20.2.2.2.1 = [] ∧ z20.2.2.2.2.1 = z15.2.2.2.2.1 ∧ z20.2.2.2.2.2.1 = z15.2.2.2.2.2.1 ∧ z20.2.2.2.2.2.2.1 = z15.2.2.2.2.2.2.1) ?_ fun z20 hz => ?_
   ·refine aC (yK _) fun r17 hr17 => ?_
    apply aB <;> intro hc
    ·apply aB <;> intro hc
     ·apply aA
      grind
     apply aA
     grind
    apply aA
    grind
   apply aB <;> intro hc
   ·refine aH ?_
    apply aA
    grind
   refine aH ?_
   apply aA
   grind
  apply hL14 <;> grind
 apply aB <;> intro hc
 ·refine aC (tQ _ (by grind)) fun r25 hr25 => ?_
  apply aA
  grind
 refine aC (aNk _ (by grind) (by grind)) fun r26 hr26 => ?_
 apply aB <;> intro hc
 ·refine aC (aBo _ (by grind)) fun r27 hr27 => ?_
  apply aA
  grind
 refine aC (aBo _ (by grind)) fun r28 hr28 => ?_
 apply aA
 grind
end
theorem aNi (x : List aY × aY) (h0 : x.1.length ≤ 1000000) : Tot (vI x) (fun y => y.length ≤ x.1.length + 1 ∧ ∀ w ∈ y, w ∈ x.1 ∨ w = x.2) := by
 unfold vI; try dsimp only
 refine aX (fun z2 => z2.2.2.2 ≤ (x.1.length : Int) ∧ 0 ≤ z2.2.2.2 ∧ z2.1 = x.2 ∧ 0 ≤ z2.2.2.2 ∧ z2.2.1.length ≤ z2.2.2.2 + (if z2.2.2.1 then 1 else 0) ∧ (∀ w ∈ z2.2.1, w ∈ x.1 ∨ w = x.2)) (fun z2 => ((x.1.length : Int) - z2.2.2.2).toNat) fun L1 z2 hz1 hL1 => ?_
 apply aB <;> intro hc
 ·refine bF (P := fun (z3 : aY × List aY × Bool) => z3.1 = x.2 ∧ z3.2.1.length ≤ z2.2.2.2 + (if z3.2.2 then 1 else 0) ∧ ∀ w ∈ z3.2.1, w ∈ x.1 ∨ w = x.2) ?_ fun z3 hz => ?_
  ·apply aB <;> intro hc
   ·refine aH ?_
    apply aB <;> intro hc
    ·refine aH ?_
     apply aA
     grind
    apply aA
    grind
   apply aA
   grind
  refine aH ?_
  apply aB <;> intro hc
  ·iterate 2 refine aH ?_
   apply hL1 <;> grind
  apply hL1 <;> grind
 apply aB <;> intro hc
 ·refine aH ?_
  apply aA
  grind
 apply aA
 grind
section
attribute [local grind] HouseG HouseG.w LogG WorkG LockG.w SlotsG dV
theorem aVc (x : aO × aP) (h0 : HouseG x.1) (h1 : x.1.2.2.2.2.2.length ≤ 500) (h2 : dV x.2) : Tot (aFo x) (fun y => HouseG y.1 ∧ y.2.length ≤ 1000000 ∧ ∀ w ∈ y.2, dV w) := by
 unfold aFo; try dsimp only
 refine aC (tO _ (by grind)) fun r1 hr1 => ?_
 refine bF (P := fun (z9 : aO × aP × aO × List aP) => z9.1 = x.1 ∧ z9.2.1 = x.2 ∧ z9.2.2.2 = [] ∧ (SlotsG x.2.2.2.2.2.2.2.2.1 ∧ 1 ≤ x.2.2.2.2.2.2.2.2.1.length)) ?_ fun z9 hz => ?_
 ·refine bF (P := fun (z8 : aO × aP × aO × List aP × Bool) => z8.1 = x.1 ∧ z8.2.1 = x.2 ∧ z8.2.2.2.1 = [] ∧ (z8.2.2.2.2 = false → SlotsG x.2.2.2.2.2.2.2.2.1 ∧ 1 ≤ x.2.2.2.2.2.2.2.2.1.length)) ?_ fun z8 hz => ?_
  ·refine aC (aD2 _ (by grind)) fun r2 hr2 => ?_
   apply aB <;> intro hc
   ·apply aA
    grind
   apply aB <;> intro hc
   ·refine aH ?_
    apply aB <;> intro hc
    ·apply aA
     grind
    apply aB <;> intro hc
    ·apply aB <;> intro hc
     ·apply aA
      grind
     refine aC (gW _ (by grind)) fun r4 hr4 => ?_
     apply aA
     grind
    refine aC (gW _ (by grind)) fun r5 hr5 => ?_
    apply aA
    grind
   apply aB <;> intro hc
   ·apply aB <;> intro hc
    ·apply aA
     grind
    refine aC (gW _ (by grind)) fun r6 hr6 => ?_
    apply aA
    grind
   refine aC (gW _ (by grind)) fun r7 hr7 => ?_
   apply aA
   grind
  apply aB <;> intro hc
  ·apply aA
   grind
  apply aA
  grind
 refine bF (P := fun (z14 : aO × aP × aO) => z14.1 = x.1 ∧ z14.2.1 = x.2) ?_ fun z14 hz => ?_
 ·refine bF (P := fun (z11 : aO × aP × aO × List aP × Bool) => z11.1 = x.1 ∧ z11.2.1 = x.2 ∧ z11.2.2.2.1 = [] ∧ (z11.2.2.2.2 = true → 0 ≤ r1)) ?_ fun z11 hz => ?_
  ·apply aB <;> intro hc
   ·refine aH ?_
    apply aA
    grind
   apply aA
   grind
  apply aB <;> intro hc
  ·refine aH ?_
   refine aC (nW _ (by grind [aF, size_mk, dL, bL, bV, dB, bW, bN, aW, aZ, bK, bA]) (by grind [aF, size_mk, dL, bL, bV, dB, bW, bN, aW, aZ, bK, bA]) (by grind [aF, size_mk, dL, bL, bV, dB, bW, bN, aW, aZ, bK, bA])) fun r12 hr12 => ?_
   apply aB <;> intro hc
   ·refine aH ?_
    refine aC (aAc _ (by grind) (by grind)) fun r13 hr13 => ?_
    refine aH ?_
    apply aA
    grind
   apply aA
   grind
  apply aA
  grind
 refine bF (P := fun (z15 : aO × aP × aO × aY) => z15.1 = x.1 ∧ z15.2.1 = x.2 ∧ WorkG z15.2.2.2) ?_ fun z15 hz => ?_
 ·refine dO (by first | rfl | simp only [dC]) ?_
  refine dO (by first | rfl | simp only [dC]) ?_
  refine aH ?_
  apply aA
  grind
 refine aC (kW _ (by grind)) fun r16 hr16 => ?_
 refine aC (pR _ (by grind)) fun r17 hr17 => ?_
 refine aC (aNi _ (by grind)) fun r18 hr18 => ?_
 refine aX (fun z20 => z20.1.1 = r17.1.1 ∧ z20.1.2.1 = r17.1.2.1 ∧ z20.1.2.2.1 = r17.1.2.2.1 ∧ z20.1.2.2.2.1 = r17.1.2.2.2.1 ∧ z20.1.2.2.2.2.2 = r18 ∧ z20.2.1 = z15.2.2.1 ∧ z20.2.2.1 = z15.2.2.2 ∧ z20.2.2.2.1 = r17.2 ∧ z20.2.2.2.2.2 ≤ (z20.2.2.1.2.2.2.length : Int) ∧ 0 ≤ z20.2.2.2.2.2 ∧ HouseG z20.1 ∧ z20.2.2.2.2.1.length ≤ 16 * z20.2.2.2.2.2) (fun z20 => ((z20.2.2.1.2.2.2.length : Int) - z20.2.2.2.2.2).toNat) fun L19 z20 hz19 hL19 => ?_
 apply aB <;> intro hc
 ·iterate 2 refine aH ?_
  refine dO (by first | rfl | simp only [dC]) ?_
  refine aC (aVf _ (by grind)) fun r22 hr22 => ?_
  iterate 3 refine aH ?_
  apply hL19 <;> grind
 refine aX (fun z27 => z27.2.2.2.2.2 ≤ (z27.1.length : Int) ∧ 0 ≤ z27.2.2.2.2.2 ∧ 0 ≤ z27.2.2.2.2.2 ∧ z27.1 = z20.2.2.2.2.1 ∧ z27.2.2.1 = z20.2.2.1 ∧ HouseG z27.2.2.2.2.1 ∧ z27.2.1.length ≤ 1000 + 1001 * z27.2.2.2.2.2 ∧ (∀ w ∈ z27.2.1, dV w)) (fun z27 => ((z27.1.length : Int) - z27.2.2.2.2.2).toNat) fun L26 z27 hz26 hL26 => ?_
 apply aB <;> intro hc
 ·refine aH ?_
  refine aC (tO _ (by grind)) fun r28 hr28 => ?_
  apply aB <;> intro hc
  ·apply hL26 <;> grind
  refine bF (P := fun (z34 : (Int × Bool × Int) × aO × List aP × aY × List bP × aO × List aP) => z34.2.2.1 = z27.2.1 ∧ z34.2.2.2.1 = z27.2.2.1 ∧ z34.2.2.2.2.1 = z27.1 ∧ HouseG z34.2.2.2.2.2.1 ∧ z34.2.2.2.2.2.2.length ≤ 1000 ∧ ∀ w ∈ z34.2.2.2.2.2.2, dV w) ?_ fun z34 hz => ?_
  ·iterate 4 refine aH ?_
   refine dO (by first | rfl | simp only [dC]) ?_
   refine aC (kW _ (by grind)) fun r29 hr29 => ?_
   refine dO (by first | rfl | simp only [dC]) ?_
   refine aC (pR _ (by grind)) fun r30 hr30 => ?_
   apply aA
   grind
  iterate 2 refine aH ?_
  refine aC (nC _) fun r35 hr35 => ?_
  iterate 2 refine aH ?_
  apply hL26 <;> grind
 refine aC (nW _ (by grind) (by grind) (by grind)) fun r37 hr37 => ?_
 apply aB <;> intro hc
 ·refine aC (aAc _ (by grind) (by grind)) fun r38 hr38 => ?_
  refine aH ?_
  apply aA
  grind
 apply aA
 grind
end
theorem aQ7 (x : List aN × List Int) (h0 : x.1.length ≤ 1000000) (h1 : x.2.length ≤ 1000000) : Tot (aH9 x) (fun y => y.length ≤ x.1.length) := by
 unfold aH9; try dsimp only
 refine aX (fun z2 => z2.2 ≤ (x.1.length : Int) ∧ 0 ≤ z2.2 ∧ z2.1.length ≤ z2.2) (fun z2 => ((x.1.length : Int) - z2.2).toNat) fun L1 z2 hz1 hL1 => ?_
 apply aB <;> intro hc
 ·refine aH ?_
  refine aC (yL _) fun r3 hr3 => ?_
  refine aC (wH _ (by grind)) fun r4 hr4 => ?_
  apply aB <;> intro hc
  ·iterate 2 refine aH ?_
   apply hL1 <;> grind
  apply hL1 <;> grind
 apply aA
 grind
section
attribute [local grind] dV SlotsG
theorem aNg (x : aO × Int × Int × List Int) (h0 : HouseG x.1) (h1 : SlotsG x.2.2.2) : Tot (aEa x) (fun y => dV y) := by
 unfold aEa; try dsimp only
 refine aC (nC _) fun r1 hr1 => ?_
 refine aC (aH3 _ (by grind)) fun r2 hr2 => ?_
 refine aC (aQ7 _ (by grind) (by grind)) fun r3 hr3 => ?_
 apply aA
 grind
end
section
attribute [local grind] yA LockG
theorem aS4 (x : RLock × Int × Int) (h0 : yA x.1) : Tot (aB5 x) (fun y => LockG y.1) := by
 unfold aB5; try dsimp only
 refine aC (aBp _ (by grind)) fun r1 hr1 => ?_
 apply aB <;> intro hc
 ·apply aA
  grind
 refine aC (tQ _ (by grind)) fun r2 hr2 => ?_
 refine aC (aFf _ (by grind)) fun r3 hr3 => ?_
 apply aB <;> intro hc
 ·apply aA
  grind
 refine aH ?_
 apply aB <;> intro hc
 ·apply aA
  grind
 refine aH ?_
 apply aA
 grind
end
section
attribute [local grind] HouseG HouseG.w LogG.len LogG.addP LogG.addD RecG WorkG LockG.w SlotsG aQy
attribute [local grind →] LogG.mem
theorem aNj (x : aO × aP) (h0 : HouseG x.1) (h1 : x.1.2.2.1.length ≤ 500) : Tot (vJ x) (fun y => HouseG y.1 ∧ y.2.length ≤ 1000000 ∧ ∀ w ∈ y.2, dV w) := by
 unfold vJ; try dsimp only
 refine aC (nC _) fun r1 hr1 => ?_
 apply aB <;> intro hc
 ·apply aA
  grind
 apply aB <;> intro hc
 ·apply aA
  grind
 refine aC (gW _ (by grind)) fun r2 hr2 => ?_
 apply aB <;> intro hc
 ·refine aC (uY _ (by grind)) fun r3 hr3 => ?_
  apply aB <;> intro hc
  ·apply aA
   grind
  refine aH ?_
  refine aC (aNg _ (by first | exact HouseG.addP (by grind) (by grind) (by grind [bL, kL]) (by simp) | grind [dL, bL, bV, dB, bW, bN, aW, aZ, bK, bA]) (by grind [aF, size_mk, LogG.len, LogG.addP, LogG.addD, dL, bL, bV, dB, bW, bN, aW, aZ, bK, bA])) fun r4 hr4 => ?_
  refine dO (by first | rfl | simp only [dC]) ?_
  apply aA
  grind
 refine aC (tO _ (by grind)) fun r5 hr5 => ?_
 apply aB <;> intro hc
 ·refine dO (by first | rfl | simp only [dC]) ?_
  apply aA
  grind
 refine aH ?_
 apply aB <;> intro hc
 ·refine dO (by first | rfl | simp only [dC]) ?_
  apply aA
  grind
 refine aH ?_
 refine aC (nW _ (by grind [aF, size_mk, LogG.len, LogG.addP, LogG.addD, dL, bL, bV, dB, bW, bN, aW, aZ, bK, bA]) (by grind [aF, size_mk, LogG.len, LogG.addP, LogG.addD, dL, bL, bV, dB, bW, bN, aW, aZ, bK, bA]) (by grind [aF, size_mk, LogG.len, LogG.addP, LogG.addD, dL, bL, bV, dB, bW, bN, aW, aZ, bK, bA])) fun r6 hr6 => ?_
 apply aB <;> intro hc
 ·refine dO (by first | rfl | simp only [dC]) ?_
  apply aA
  grind
 iterate 2 refine aH ?_
 refine aC (aKz _ (by grind [aF, size_mk, LogG.len, LogG.addP, LogG.addD, dL, bL, bV, dB, bW, bN, aW, aZ, bK, bA]) (by grind [aF, size_mk, LogG.len, LogG.addP, LogG.addD, dL, bL, bV, dB, bW, bN, aW, aZ, bK, bA])) fun r7 hr7 => ?_
 apply aB <;> intro hc
 ·refine dO (by first | rfl | simp only [dC]) ?_
  apply aA
  grind
 refine aC (yJ _ (by grind) (by grind)) fun r8 hr8 => ?_
 apply aB <;> intro hc
 ·refine dO (by first | rfl | simp only [dC]) ?_
  apply aA
  grind
 refine aH ?_
 refine eZ (fun z11 => z11.1.1 = x.1.1 ∧ z11.1.2.1 = x.1.2.1 ∧ z11.1.2.2.1 = x.1.2.2.1 ∧ z11.1.2.2.2.1 = x.1.2.2.2.1 ∧ z11.1.2.2.2.2.2 = x.1.2.2.2.2.2 ∧ z11.2.1.1 = 0 ∧ z11.2.1.2.1 = false ∧ z11.2.1.2.2.1 = [] ∧ z11.2.1.2.2.2.1 = 0 ∧ z11.2.1.2.2.2.2.1 = [] ∧ z11.2.1.2.2.2.2.2 = [] ∧ z11.2.2.1 = aS x.1.2.2.2.2.2 r5 ∧ z11.2.2.2 ≤ (z11.2.2.1.2.2.2.length : Int) ∧ 0 ≤ z11.2.2.2 ∧ HouseG z11.1) (fun z11 => ((z11.2.2.1.2.2.2.length : Int) - z11.2.2.2).toNat) (by grind [aF, size_mk, LogG.len, LogG.addP, LogG.addD, dL, bL, bV, dB, bW, bN, aW, aZ, bK, bA]) (by grind [aF, size_mk, LogG.len, LogG.addP, LogG.addD, dL, bL, bV, dB, bW, bN, aW, aZ, bK, bA]) fun L10 z11 hz10 hL10 => ?_
 apply aB <;> intro hc
 ·iterate 3 refine dH (by grind [aF, size_mk, LogG.len, LogG.addP, LogG.addD, dL, bL, bV, dB, bW, bN, aW, aZ, bK, bA]) ?_
  refine aC (aS4 _ (by grind [aF, size_mk, LogG.len, LogG.addP, LogG.addD, dL, bL, bV, dB, bW, bN, aW, aZ, bK, bA])) fun r13 hr13 => ?_
  refine dH (by grind [aF, size_mk, LogG.len, LogG.addP, LogG.addD, dL, bL, bV, dB, bW, bN, aW, aZ, bK, bA]) ?_
  apply hL10 <;> grind [aF, size_mk, LogG.len, LogG.addP, LogG.addD, dL, bL, bV, dB, bW, bN, aW, aZ, bK, bA]
 iterate 2 refine dH (by grind [aF, size_mk, LogG.len, LogG.addP, LogG.addD, dL, bL, bV, dB, bW, bN, aW, aZ, bK, bA]) ?_
 refine aC (aVd _ (by grind)) fun r16 hr16 => ?_
 refine aC (aNg _ (by first | exact HouseG.addP (by grind) (by grind) (by grind [bL, kL]) (by simp) | grind [dL, bL, bV, dB, bW, bN, aW, aZ, bK, bA]) (by grind [aF, size_mk, LogG.len, LogG.addP, LogG.addD, dL, bL, bV, dB, bW, bN, aW, aZ, bK, bA])) fun r17 hr17 => ?_
 refine dO (by first | rfl | simp only [dC]) ?_
 apply aA
 grind [aF, size_mk, LogG.len, LogG.addP, LogG.addD, dL, bL, bV, dB, bW, bN, aW, aZ, bK, bA]
end
section
attribute [local grind] HouseG LogG.len LogG.addP LogG.addD RecG SlotsG
attribute [local grind →] LogG.mem
theorem aXx (x : aO × aP) (h0 : HouseG x.1) (h1 : x.1.2.2.1.length ≤ 500) (h2 : x.2.2.2.2.2.2.2.2.2.1.length ≤ 32) : Tot (aIa x) (fun y => HouseG y.1 ∧ y.2.length ≤ 1000000 ∧ ∀ w ∈ y.2, dV w) := by
 unfold aIa; try dsimp only
 apply aB <;> intro hc
 ·apply aA
  grind
 apply aB <;> intro hc
 ·apply aA
  grind
 refine aC (gW _ (by grind)) fun r1 hr1 => ?_
 apply aB <;> intro hc
 ·refine aC (uY _ (by grind)) fun r2 hr2 => ?_
  apply aB <;> intro hc
  ·apply aB <;> intro hc
   ·refine aH ?_
    refine aC (aQ7 _ (by grind [aF, size_mk, LogG.len, LogG.addP, LogG.addD, dL, bL, bV, dB, bW, bN, aW, aZ, bK, bA]) (by grind [aF, size_mk, LogG.len, LogG.addP, LogG.addD, dL, bL, bV, dB, bW, bN, aW, aZ, bK, bA])) fun r3 hr3 => ?_
    refine aH ?_
    refine aC (kW _ (by grind)) fun r5 hr5 => ?_
    refine aC (pR _ (by first | (have hm : bU x.1.2.2.1 r1 ∈ x.1.2.2.1 := dL (by grind) (by grind); have hL : LogG r5.2.2.1 := (by rw [hr5.2.2.1]; exact LogG.addD h0.1 (by grind) (by grind) hm (by grind)); grind) | (have hL : LogG r5.2.2.1 := (by rw [hr5.2.2.1]; exact LogG.addP h0.1 (by grind) (by grind) (by decide)); grind) | grind)) fun r6 hr6 => ?_
    apply aA
    grind
   refine aH ?_
   refine aC (kW _ (by grind)) fun r8 hr8 => ?_
   refine aC (pR _ (by first | (have hm : bU x.1.2.2.1 r1 ∈ x.1.2.2.1 := dL (by grind) (by grind); have hL : LogG r8.2.2.1 := (by rw [hr8.2.2.1]; exact LogG.addD h0.1 (by grind) (by grind) hm (by grind)); grind) | (have hL : LogG r8.2.2.1 := (by rw [hr8.2.2.1]; exact LogG.addP h0.1 (by grind) (by grind) (by decide)); grind) | grind)) fun r9 hr9 => ?_
   apply aA
   grind
  refine aC (tO _ (by grind)) fun r10 hr10 => ?_
  apply aB <;> intro hc
  ·apply aA
   grind
  apply aB <;> intro hc
  ·apply aA
   grind
  refine aH ?_
  apply aB <;> intro hc
  ·apply aA
   grind
  refine aC (kW _ (by grind)) fun r12 hr12 => ?_
  refine aC (pR _ (by first | (have hm : bU x.1.2.2.1 r1 ∈ x.1.2.2.1 := dL (by grind) (by grind); have hL : LogG r12.2.2.1 := (by rw [hr12.2.2.1]; exact LogG.addD h0.1 (by grind) (by grind) hm (by grind)); grind) | (have hL : LogG r12.2.2.1 := (by rw [hr12.2.2.1]; exact LogG.addP h0.1 (by grind) (by grind) (by decide)); grind) | grind)) fun r13 hr13 => ?_
  apply aA
  grind
 refine aC (tO _ (by grind)) fun r14 hr14 => ?_
 apply aB <;> intro hc
 ·apply aA
  grind
 apply aB <;> intro hc
 ·apply aA
  grind
 refine aH ?_
 apply aB <;> intro hc
 ·apply aA
  grind
 refine aC (kW _ (by grind)) fun r16 hr16 => ?_
 refine aC (pR _ (by first | (have hm : bU x.1.2.2.1 r1 ∈ x.1.2.2.1 := dL (by grind) (by grind); have hL : LogG r16.2.2.1 := (by rw [hr16.2.2.1]; exact LogG.addD h0.1 (by grind) (by grind) hm (by grind)); grind) | (have hL : LogG r16.2.2.1 := (by rw [hr16.2.2.1]; exact LogG.addP h0.1 (by grind) (by grind) (by decide)); grind) | grind)) fun r17 hr17 => ?_
 apply aA
 grind
end
theorem aBl (x : List Int) (h0 : x.length ≤ 1000000) : Tot (qO x) (fun y => y = true → x.length ≤ 6) := by
 unfold qO; try dsimp only
 apply aB <;> intro hc
 ·apply aA
  grind
 refine aX (fun z2 => z2 ≤ (x.length : Int) ∧ 0 ≤ z2) (fun z2 => ((x.length : Int) - z2).toNat) fun L1 z2 hz1 hL1 => ?_
 apply aB <;> intro hc
 ·refine aH ?_
  refine aC (mI _) fun r3 hr3 => ?_
  apply aB <;> intro hc
  ·apply aA
   grind
  apply hL1 <;> grind
 apply aA
 grind
theorem aK1 (x : bO) : Tot (aAy x) (fun y => y = true → x.2.2.2.1.size ≤ 80) := by
 unfold aAy; try dsimp only
 refine aC (bG _) fun r1 hr1 => ?_
 apply aB <;> intro hc
 ·refine aC (bG _) fun r2 hr2 => ?_
  apply aB <;> intro hc
  ·refine aC (bG _) fun r3 hr3 => ?_
   apply aB <;> intro hc
   ·refine aC (bG _) fun r4 hr4 => ?_
    apply aB <;> intro hc
    ·refine aC (bG _) fun r5 hr5 => ?_
     apply aB <;> intro hc
     ·apply aA
      grind
     apply aA
     grind
    apply aA
    grind
   apply aA
   grind
  apply aA
  grind
 apply aA
 grind
theorem aH5 (x : Int) : Tot (xI x) (fun y => True) := by
 unfold xI; try dsimp only
 refine aC (iJ _) fun r1 hr1 => ?_
 apply aB <;> intro hc
 ·apply aA
  grind
 apply aB <;> intro hc
 ·apply aA
  grind
 refine aC (bG _) fun r2 hr2 => ?_
 apply aA
 grind
section
attribute [local grind] dV
theorem aNl (x : aP) (h0 : dV x) : Tot (aEc x) (fun y => y = true → SlotsG x.2.2.2.2.2.2.2.1 ∧ x.2.2.2.2.2.2.2.2.1.length ≤ 32 ∧ x.2.2.2.2.2.2.2.2.2.2.1.length ≤ 6 ∧ x.2.2.2.2.2.2.2.2.2.2.2.2.2.2.1.size ≤ 80) := by
 unfold aEc; try dsimp only
 refine aC (bG _) fun r1 hr1 => ?_
 apply aB <;> intro hc
 ·refine aC (aH5 _) fun r2 hr2 => ?_
  apply aB <;> intro hc
  ·refine aC (aH5 _) fun r3 hr3 => ?_
   apply aB <;> intro hc
   ·refine aC (bG _) fun r4 hr4 => ?_
    apply aB <;> intro hc
    ·refine aC (bG _) fun r5 hr5 => ?_
     apply aB <;> intro hc
     ·refine aC (bG _) fun r6 hr6 => ?_
      apply aB <;> intro hc
      ·refine aC (aH4 _ (by grind)) fun r7 hr7 => ?_
       apply aB <;> intro hc
       ·refine aC (kG _ (by grind)) fun r8 hr8 => ?_
        apply aB <;> intro hc
        ·refine aC (bG _) fun r9 hr9 => ?_
         apply aB <;> intro hc
         ·refine aC (aBl _ (by grind)) fun r10 hr10 => ?_
          apply aB <;> intro hc
          ·refine aC (aK1 _) fun r11 hr11 => ?_
           apply aA
           grind
          apply aA
          grind
         apply aA
         grind
        apply aA
        grind
       apply aA
       grind
      apply aA
      grind
     apply aA
     grind
    apply aA
    grind
   apply aA
   grind
  apply aA
  grind
 apply aA
 grind
end
section
attribute [local grind] dV
theorem aVe (x : aP) (h0 : dV x) : Tot (aFq x) (fun y => y = x) := by
 unfold aFq; try dsimp only
 simp only [List.nil_append, aEh]
 iterate 3 refine aH ?_
 apply aA
 grind
end
section
attribute [local grind] bY bA2 dG
theorem aBn (x : List aP) (h0 : x.length ≤ 1000000) (h1 : ∀ w ∈ x, dV w) : Tot (nK x) (fun y => y = x) := by
 unfold nK; try dsimp only
 refine aX (fun z2 => z2.2 ≤ (x.length : Int) ∧ 0 ≤ z2.2 ∧ z2.1 = x.take z2.2.toNat) (fun z2 => ((x.length : Int) - z2.2).toNat) fun L1 z2 hz1 hL1 => ?_
 apply aB <;> intro hc
 ·refine aH ?_
  refine aC (aVe _ (by grind)) fun r3 hr3 => ?_
  refine aH ?_
  apply hL1 <;> grind
 apply aA
 grind
end
section
attribute [local grind] HouseG.w HouseG.b HouseB.w HouseB
theorem aPx (x : aO × aP) (h0 : HouseB x.1) (h1 : dV x.2) : Tot (zC x) (fun y => HouseB y.1 ∧ y.2.length ≤ 1000000 ∧ ∀ w ∈ y.2, dV w) := by
 unfold zC; try dsimp only
 refine aC (pU _ (by grind)) fun r1 hr1 => ?_
 apply aB <;> intro hc
 ·apply aA
  grind
 refine aC (kF _ (by grind)) fun r2 hr2 => ?_
 apply aB <;> intro hc
 ·apply aA
  grind
 refine aC (aNl _ (by grind)) fun r3 hr3 => ?_
 apply aB <;> intro hc
 ·apply aA
  grind
 apply aB <;> intro hc
 ·apply aA
  grind
 apply aB <;> intro hc
 ·apply aA
  grind
 refine bF (P := fun (z7 : aO × aO × List aP × aO × List aP) => z7.1 = x.1 ∧ z7.2.2.1 = [] ∧ HouseG z7.2.2.2.1 ∧ z7.2.2.2.2.length ≤ 1000000 ∧ ∀ w ∈ z7.2.2.2.2, dV w) ?_ fun z7 hz => ?_
 ·apply aB <;> intro hc
  ·refine aC (aVc _ (by grind) (by grind) (by grind)) fun r4 hr4 => ?_
   apply aA
   grind
  apply aB <;> intro hc
  ·refine aC (aNj _ (by grind) (by grind)) fun r5 hr5 => ?_
   apply aA
   grind
  apply aB <;> intro hc
  ·refine aC (aXx _ (by grind) (by grind) (by grind)) fun r6 hr6 => ?_
   apply aA
   grind
  apply aA
  grind
 refine aC (pU _ (by grind)) fun r8 hr8 => ?_
 apply aB <;> intro hc
 ·refine aC (kF _ (by grind)) fun r9 hr9 => ?_
  apply aA
  grind
 refine aC (kF _ (by grind)) fun r10 hr10 => ?_
 refine aC (aBn _ (by grind) (by grind)) fun r11 hr11 => ?_
 apply aA
 grind
end
section
attribute [local grind] LockG
theorem aH2 (x : Unit) : Tot (xE x) (fun y => y.length = 8 ∧ ∀ l ∈ y, LockG l) := by
 unfold xE; try dsimp only
 refine aX (fun z2 => z2.2 ≤ 8 ∧ 0 ≤ z2.2 ∧ z2.1.length = z2.2 ∧ (∀ l ∈ z2.1, LockG l)) (fun z2 => (8 - z2.2).toNat) fun L1 z2 hz1 hL1 => ?_
 apply aB <;> intro hc
 ·refine aH ?_
  apply hL1 <;> grind
 apply aA
 grind
end
section
attribute [local grind] HouseB
theorem aNm (x : Int) : Tot (vL x) (fun y => HouseB y) := by
 unfold vL; try dsimp only
 refine aC (iJ _) fun r1 hr1 => ?_
 apply aB <;> intro hc
 ·apply aA
  grind
 refine aC (aH2 _) fun r2 hr2 => ?_
 apply aA
 grind
end
section
attribute [local grind] HouseB.w HouseB HouseG aAi RecG.w LockG.w LogG
theorem aPy (x : aO × Int) (h0 : HouseB x.1) : Tot (zD x) (fun y => HouseB y) := by
 unfold zD; try dsimp only
 refine aC (pU _ (by grind)) fun r1 hr1 => ?_
 apply aB <;> intro hc
 ·apply aA
  grind
 refine aC (kF _ (by grind)) fun r2 hr2 => ?_
 refine bF (P := fun (z4 : aO × aO × Int) => z4.2.1 = x.1 ∧ 0 ≤ z4.2.2 ∧ z4.2.2 ≤ x.1.2.2.1.length) ?_ fun z4 hz => ?_
 ·apply aB <;> intro hc
  ·apply aB <;> intro hc
   ·apply aA
    grind
   apply aB <;> intro hc
   ·apply aA
    grind
   apply aA
   grind
  apply aB <;> intro hc
  ·apply aA
   grind
  apply aA
  grind
 refine aH ?_
 refine aC (aH2 _) fun r5 hr5 => ?_
 refine aC (kF _ (by grind)) fun r6 hr6 => ?_
 apply aA
 grind
end
section
attribute [local grind] HouseB HouseG.w HouseG.b HouseB.w HouseG LogG RecG aAi RecG.w LockG yA SlotsG WorkG.w
theorem aPw (x : aO) (h0 : HouseB x) : Tot (zA x) (fun y => HouseB y) := by
 unfold zA; try dsimp only
 refine aC (pU _ (by grind)) fun r1 hr1 => ?_
 apply aB <;> intro hc
 ·apply aA
  grind
 refine aC (kF _ (by grind)) fun r2 hr2 => ?_
 apply aB <;> intro hc
 ·apply aA
  grind
 refine aC (yJ _ (by grind) (by grind)) fun r3 hr3 => ?_
 refine aX (fun z5 => z5.1 = x ∧ z5.2.1.1 = 0 ∧ z5.2.1.2.1 = false ∧ z5.2.1.2.2.1 = [] ∧ z5.2.1.2.2.2.1 = 0 ∧ z5.2.1.2.2.2.2.1 = [] ∧ z5.2.1.2.2.2.2.2 = [] ∧ z5.2.2.1.1 = r2.1 ∧ z5.2.2.1.2.1 = true ∧ z5.2.2.2.1 = r3 ∧ z5.2.2.2.2 ≤ (z5.2.2.2.1.length : Int) ∧ 0 ≤ z5.2.2.2.2 ∧ 0 ≤ z5.2.2.2.2 ∧ z5.1 = x ∧ z5.2.2.2.1 = r3 ∧ HouseG x ∧ z5.2.2.1.2.2.1 = x.2.2.1 ∧ z5.2.2.1.2.2.2.2.2 = x.2.2.2.2.2 ∧ z5.2.2.1.2.2.2.2.1.length = 8 ∧ (∀ l ∈ z5.2.2.1.2.2.2.2.1, l.2.1.length ≤ 50 + 8 * z5.2.2.2.2 ∧ l.2.2.length ≤ 50)) (fun z5 => ((z5.2.2.2.1.length : Int) - z5.2.2.2.2).toNat) fun L4 z5 hz4 hL4 => ?_
 apply aB <;> intro hc
 ·refine eZ (fun z7 => z7.1 = z5.2.2.2.1 ∧ z7.2.1.1 = z5.2.2.1.1 ∧ z7.2.1.2.1 = z5.2.2.1.2.1 ∧ z7.2.1.2.2.1 = z5.2.2.1.2.2.1 ∧ z7.2.1.2.2.2.1 = z5.2.2.1.2.2.2.1 ∧ z7.2.1.2.2.2.2.2 = z5.2.2.1.2.2.2.2.2 ∧ z7.2.2.1 = z5.2.1 ∧ z7.2.2.2.1 = z5.1 ∧ SlotsG (bU z7.1 z5.2.2.2.2).2.2.2.2.1 ∧ 0 ≤ z7.2.2.2.2 ∧ z7.2.2.2.2 ≤ (bU z7.1 z5.2.2.2.2).2.2.2.2.1.length ∧ z7.2.2.2.1 = x ∧ z7.1 = r3 ∧ z7.2.1.2.2.1 = x.2.2.1 ∧ z7.2.1.2.2.2.2.2 = x.2.2.2.2.2 ∧ z7.2.1.2.2.2.2.1.length = 8 ∧ (∀ l ∈ z7.2.1.2.2.2.2.1, l.2.1.length ≤ 50 + 8 * z5.2.2.2.2 + z7.2.2.2.2 ∧ l.2.2.length ≤ 50)) (fun z7 => ((bU z7.1 z5.2.2.2.2).2.2.2.2.1.length - z7.2.2.2.2).toNat) (by grind [aF, size_mk, dL, bL, bV, dB, bW, bN, aW, aZ, bK, bA]) (by grind [aF, size_mk, dL, bL, bV, dB, bW, bN, aW, aZ, bK, bA]) fun L6 z7 hz6 hL6 => ?_
  refine xZ (by grind) fun hg => ?_
  apply aB <;> intro hc
  ·refine xZ (by grind) fun hg => ?_
   refine xZ (by grind) fun hg => ?_
   refine xZ (by grind) fun hg => ?_
   refine xZ (by grind) fun hg => ?_
   refine xZ (by grind) fun hg => ?_
   refine aC (aBo _ (by grind)) fun r10 hr10 => ?_
   refine xZ (by grind) fun hg => ?_
   refine hL6 _ ?_ ?_
   ·(repeat (any_goals (with_reducible refine And.intro ?_ ?_))) <;> first | (intro l hl; rcases aZ hl with h | h <;> grind) | grind
   grind
  refine hL4 _ ?_ ?_
  ·(repeat (any_goals (with_reducible refine And.intro ?_ ?_))) <;> first | (intro l hl; rcases aZ hl with h | h <;> grind) | grind
  grind
 refine aC (pU _ (by grind)) fun r12 hr12 => ?_
 apply aB <;> intro hc
 ·refine aC (kF _ (by grind)) fun r13 hr13 => ?_
  apply aA
  grind
 apply aA
 grind
end
section
attribute [local grind] HouseB.w HouseB RecG.w
theorem aPv (x : aO) (h0 : HouseB x) : Tot (yZ x) (fun y => y.length ≤ 10000 ∧ ∀ w ∈ y, dV w) := by
 unfold yZ; try dsimp only
 refine aC (pU _ (by grind)) fun r1 hr1 => ?_
 apply aB <;> intro hc
 ·apply aA
  grind
 apply aB <;> intro hc
 ·apply aA
  grind
 refine aC (yJ _ (by grind) (by grind)) fun r2 hr2 => ?_
 refine aX (fun z4 => z4.1 = x ∧ z4.2.2.1 = r2 ∧ z4.2.2.2 ≤ (z4.2.2.1.length : Int) ∧ 0 ≤ z4.2.2.2 ∧ z4.2.1.length ≤ z4.2.2.2 ∧ (∀ w ∈ z4.2.1, dV w)) (fun z4 => ((z4.2.2.1.length : Int) - z4.2.2.2).toNat) fun L3 z4 hz3 hL3 => ?_
 apply aB <;> intro hc
 ·iterate 2 refine aH ?_
  refine aC (nC _) fun r5 hr5 => ?_
  refine aH ?_
  apply hL3 <;> grind
 refine aX (fun z7 => z7.2.1 = z4.1 ∧ z7.2.2 ≤ (z7.2.1.2.2.2.2.2.length : Int) ∧ 0 ≤ z7.2.2 ∧ z7.1.length ≤ 1000 + z7.2.2 ∧ (∀ w ∈ z7.1, dV w)) (fun z7 => ((z7.2.1.2.2.2.2.2.length : Int) - z7.2.2).toNat) fun L6 z7 hz6 hL6 => ?_
 apply aB <;> intro hc
 ·iterate 2 refine aH ?_
  refine aC (nC _) fun r9 hr9 => ?_
  refine aH ?_
  apply hL6 <;> grind
 apply aA
 grind
end
end Ab
end
section
set_option maxRecDepth 100000
set_option linter.unusedVariables false
namespace Ab
open Go
set_option maxHeartbeats 4000000
attribute [local grind] inb dD eX eH aQ aF size_mk dL bL bV dB bW bN aW aZ bK bA
theorem aJw (x : Int) (h0 : -99999 ≤ x) (h1 : x ≤ 99999) : Tot (yY x) (fun y => y.size ≤ 6) := by
 unfold yY; try dsimp only
 apply aB <;> intro hc
 ·refine aC (wG _ (by grind) (by grind)) fun r1 hr1 => ?_
  refine aH ?_
  apply aA
  grind
 refine aC (wG _ (by grind) (by grind)) fun r2 hr2 => ?_
 apply aA
 grind
theorem aNn (x : List aI) (h0 : x.length ≤ 1000000) : Tot (xL x) (fun y => y = true → bAv x) := by
 unfold xL; try dsimp only
 apply aB <;> intro hc
 ·apply aA
  first | (intro h; cases h; done) | (intro _; exact ⟨by grind, by grind, bQ (P := fun s => 1 ≤ s.1 ∧ s.1 ≤ 4 ∧ 0 ≤ s.2.1 ∧ s.2.1 ≤ 31 ∧ -9999 ≤ s.2.2 ∧ s.2.2 ≤ 9999) (by grind)⟩)
 apply aB <;> intro hc
 ·apply aA
  first | (intro h; cases h; done) | (intro _; exact ⟨by grind, by grind, bQ (P := fun s => 1 ≤ s.1 ∧ s.1 ≤ 4 ∧ 0 ≤ s.2.1 ∧ s.2.1 ≤ 31 ∧ -9999 ≤ s.2.2 ∧ s.2.2 ≤ 9999) (by grind)⟩)
 refine aX (fun z2 => z2 ≤ (x.length : Int) ∧ 0 ≤ z2 ∧ (∀ k : Int, 0 ≤ k → k < z2 → 1 ≤ (aJ x k).1 ∧ (aJ x k).1 ≤ 4 ∧ 0 ≤ (aJ x k).2.1 ∧ (aJ x k).2.1 ≤ 31 ∧ -9999 ≤ (aJ x k).2.2 ∧ (aJ x k).2.2 ≤ 9999)) (fun z2 => ((x.length : Int) - z2).toNat) fun L1 z2 hz1 hL1 => ?_
 apply aB <;> intro hc
 ·refine aH ?_
  refine aC (bG _) fun r3 hr3 => ?_
  apply aB <;> intro hc
  ·apply aA
   first | (intro h; cases h; done) | (intro _; exact ⟨by grind, by grind, bQ (P := fun s => 1 ≤ s.1 ∧ s.1 ≤ 4 ∧ 0 ≤ s.2.1 ∧ s.2.1 ≤ 31 ∧ -9999 ≤ s.2.2 ∧ s.2.2 ≤ 9999) (by grind)⟩)
  refine aC (bG _) fun r4 hr4 => ?_
  apply aB <;> intro hc
  ·apply aA
   first | (intro h; cases h; done) | (intro _; exact ⟨by grind, by grind, bQ (P := fun s => 1 ≤ s.1 ∧ s.1 ≤ 4 ∧ 0 ≤ s.2.1 ∧ s.2.1 ≤ 31 ∧ -9999 ≤ s.2.2 ∧ s.2.2 ≤ 9999) (by grind)⟩)
  refine aC (mI _) fun r5 hr5 => ?_
  apply aB <;> intro hc
  ·apply aA
   first | (intro h; cases h; done) | (intro _; exact ⟨by grind, by grind, bQ (P := fun s => 1 ≤ s.1 ∧ s.1 ≤ 4 ∧ 0 ≤ s.2.1 ∧ s.2.1 ≤ 31 ∧ -9999 ≤ s.2.2 ∧ s.2.2 ≤ 9999) (by grind)⟩)
  apply aB <;> intro hc
  ·apply aB <;> intro hc
   ·apply aA
    first | (intro h; cases h; done) | (intro _; exact ⟨by grind, by grind, bQ (P := fun s => 1 ≤ s.1 ∧ s.1 ≤ 4 ∧ 0 ≤ s.2.1 ∧ s.2.1 ≤ 31 ∧ -9999 ≤ s.2.2 ∧ s.2.2 ≤ 9999) (by grind)⟩)
   apply hL1 <;> grind
  apply hL1 <;> grind
 apply aA
 first | (intro h; cases h; done) | (intro _; exact ⟨by grind, by grind, bQ (P := fun s => 1 ≤ s.1 ∧ s.1 ≤ 4 ∧ 0 ≤ s.2.1 ∧ s.2.1 ≤ 31 ∧ -9999 ≤ s.2.2 ∧ s.2.2 ≤ 9999) (by grind)⟩)
section
attribute [local grind] bAv bR iX
theorem sO (x : List aI) (h0 : x.length ≤ 1000000) : Tot (iP x) (fun y => y.size ≤ 300) := by
 unfold iP; try dsimp only
 refine aC (aNn _ (by grind)) fun r1 hr1 => ?_
 apply aB <;> intro hc
 ·apply aA
  grind
 refine aX (fun z3 => z3.2 ≤ (x.length : Int) ∧ 0 ≤ z3.2 ∧ z3.1.size ≤ 30 * z3.2 ∧ bAv x) (fun z3 => ((x.length : Int) - z3.2).toNat) fun L2 z3 hz2 hL2 => ?_
 apply aB <;> intro hc
 ·refine aH ?_
  refine bF (P := fun (z8 : ByteArray × aI) => z8.1.size ≤ z3.1.size + 10 ∧ z8.2 = aJ x z3.2) ?_ fun z8 hz => ?_
  ·refine dO (by first | rfl | simp only [dC] | (have hi : inb (aJ x z3.2).1 ([emptyS, (⟨#[103, 101, 116, 32]⟩ : ByteArray), (⟨#[112, 117, 116, 32]⟩ : ByteArray), (⟨#[97, 100, 100, 32]⟩ : ByteArray), (⟨#[110, 101, 101, 100, 32]⟩ : ByteArray)] : List ByteArray).length = true := (by grind); simp only [hi, cond_true]; have ha : ∀ s : ByteArray, kM z3.1 s = kM z3.1 s := fun _ => rfl; exact aSb _ _ _)) ?_
   iterate 2 refine dH (by grind [aF, size_mk, bR, iX]) ?_
   refine aC (wG _ (by grind) (by grind)) fun r5 hr5 => ?_
   refine dH (by grind [aF, size_mk, bR, iX]) ?_
   apply aA
   grind [aF, size_mk, bR, iX]
  apply aB <;> intro hc
  ·refine aH ?_
   refine aC (aJw _ (by grind) (by grind)) fun r9 hr9 => ?_
   iterate 2 refine aH ?_
   apply hL2 <;> grind
  refine aH ?_
  apply hL2 <;> grind
 apply aA
 grind
end
section
attribute [local grind] sK
theorem aRa (x : ByteArray × Int) (h0 : x.1.size ≤ 1000000) : Tot (aB1 x) (fun y => 1 ≤ y.length ∧ y.length ≤ x.1.size + 1 ∧ ∀ s ∈ y, s.size ≤ x.1.size) := by
 unfold aB1; try dsimp only
 refine aX (fun z2 => z2.2.2 ≤ (x.1.size : Int) ∧ 0 ≤ z2.2.2 ∧ z2.1.length ≤ z2.2.2 ∧ 0 ≤ z2.2.1 ∧ z2.2.1 ≤ z2.2.2 ∧ (∀ s ∈ z2.1, s.size ≤ x.1.size)) (fun z2 => ((x.1.size : Int) - z2.2.2).toNat) fun L1 z2 hz1 hL1 => ?_
 apply aB <;> intro hc
 ·refine aH ?_
  apply aB <;> intro hc
  ·iterate 2 refine aH ?_
   apply hL1 <;> grind
  apply hL1 <;> grind
 iterate 2 refine aH ?_
 apply aA
 grind
end
section
attribute [local grind] aOr sK
theorem aQ8 (x : ByteArray) (h0 : x.size ≤ 1000000) : Tot (aBz x) (fun y => -99999 ≤ y.1 ∧ y.1 ≤ 99999) := by
 unfold aBz; try dsimp only
 refine bF (P := fun (z1 : Bool) => (z1 = true → 1 ≤ x.size)) ?_ fun z1 hz => ?_
 ·apply aB <;> intro hc
  ·refine aH ?_
   apply aA
   grind
  apply aA
  grind
 refine bF (P := fun (z2 : ByteArray) => z2.size ≤ 1000000) ?_ fun z2 hz => ?_
 ·apply aB <;> intro hc
  ·refine aH ?_
   apply aA
   grind [aF, size_mk, sK]
  apply aA
  grind
 apply aB <;> intro hc
 ·apply aA
  grind
 apply aB <;> intro hc
 ·apply aA
  grind
 refine aX (fun z4 => z4.2 ≤ (z2.size : Int) ∧ 0 ≤ z4.2 ∧ 0 ≤ z4.1 ∧ z4.1 ≤ 99999 ∧ (z4.2 = 0 → z4.1 = 0) ∧ (z4.2 = 1 → z4.1 ≤ 9) ∧ (z4.2 = 2 → z4.1 ≤ 99) ∧ (z4.2 = 3 → z4.1 ≤ 999) ∧ (z4.2 = 4 → z4.1 ≤ 9999)) (fun z4 => ((z2.size : Int) - z4.2).toNat) fun L3 z4 hz3 hL3 => ?_
 apply aB <;> intro hc
 ·refine aH ?_
  apply aB <;> intro hc
  ·apply aA
   grind
  refine aH ?_
  apply aB <;> intro hc
  ·apply aA
   grind
  refine aH ?_
  refine hL3 _ ?_ ?_
  ·(have e := aOr (n := z4.1) (b := iH z2 z4.2) (by grind) (by grind) (by grind) (by grind); have e2 : IntKind.i64.wrap (z4.2 + 1) = z4.2 + 1 := dD (by grind) (by grind); have h48 : 48 ≤ iH z2 z4.2 := (by grind); have h57 : iH z2 z4.2 ≤ 57 := (by grind); have hlt : z4.2 < z2.size := (by grind); have h5 : z2.size ≤ 5 := (by grind); simp only [aG, aSq, e, e2]; clear e e2 hL3; omega)
  grind
 apply aB <;> intro hc
 ·refine aC (aJw _ (by grind) (by grind)) fun r6 hr6 => ?_
  apply aA
  grind
 refine aC (aJw _ (by grind) (by grind)) fun r7 hr7 => ?_
 apply aA
 grind
end
section
attribute [local grind] iX
theorem vC (x : ByteArray) : Tot (iY x) (fun y => y.1.length ≤ 100) := by
 unfold iY; try dsimp only
 apply aB <;> intro hc
 ·apply aA
  grind
 refine aC (aRa _ (by grind)) fun r1 hr1 => ?_
 refine aX (fun z3 => aG (z3.2.2.2 + 1) ≤ (z3.2.2.1.length : Int) ∧ 0 ≤ z3.2.2.2 ∧ z3.1 = [] ∧ z3.2.2.1 = r1 ∧ z3.2.1.length ≤ z3.2.2.2 ∧ z3.2.2.2 ≤ r1.length) (fun z3 => (z3.2.2.1.length - z3.2.2.2).toNat) fun L2 z3 hz2 hL2 => ?_
 apply aB <;> intro hc
 ·refine aH ?_
  refine aC (aRa _ (by grind)) fun r5 hr5 => ?_
  refine aX (fun z7 => z7.1 = z3.2.2.1 ∧ z7.2.1 = z3.2.1 ∧ z7.2.2.1 = z3.1 ∧ z7.2.2.2.1 = r5 ∧ z7.2.2.2.2.1.2.1 = 0 ∧ z7.2.2.2.2.1.2.2 = 0 ∧ 0 ≤ z7.2.2.2.2.2 ∧ z7.2.2.2.2.2 ≤ 5) (fun z7 => (5 - z7.2.2.2.2.2).toNat) fun L6 z7 hz6 hL6 => ?_
  apply aB <;> intro hc
  ·iterate 2 refine aH ?_
   apply aB <;> intro hc
   ·apply hL6 <;> grind
   apply hL6 <;> grind
  refine bF (P := fun (z10 : List aI × List aI × List ByteArray × List ByteArray × aI) => z10.1 = z7.2.2.1 ∧ z10.2.1 = z7.2.1 ∧ z10.2.2.1 = z7.1 ∧ z10.2.2.2.1 = z7.2.2.2.1) ?_ fun z10 hz => ?_
  ·apply aB <;> intro hc
   ·refine aH ?_
    refine aC (aQ8 _ (by grind)) fun r9 hr9 => ?_
    apply aA
    grind
   apply aA
   grind
  apply aB <;> intro hc
  ·refine aH ?_
   refine aC (aQ8 _ (by grind)) fun r11 hr11 => ?_
   refine aH ?_
   apply hL2 <;> grind
  refine aH ?_
  apply hL2 <;> grind
 apply aB <;> intro hc
 ·apply aA
  grind
 refine aC (sO _ (by grind)) fun r13 hr13 => ?_
 apply aB <;> intro hc
 ·apply aA
  grind
 apply aA
 grind
end
section
attribute [local grind] bB4
theorem aNc (x : bO) : Tot (xC x) (fun y => y = true → x.2.2.2.1.size ≤ 80) := by
 unfold xC; try dsimp only
 refine aC (bG _) fun r1 hr1 => ?_
 apply aB <;> intro hc
 ·apply aA
  grind
 refine aC (bG _) fun r2 hr2 => ?_
 apply aB <;> intro hc
 ·apply aA
  grind
 apply aB <;> intro hc
 ·apply aB <;> intro hc
  ·apply aB <;> intro hc
   ·apply aA
    grind
   apply aA
   grind
  apply aA
  grind
 apply aB <;> intro hc
 ·apply aB <;> intro hc
  ·refine aC (bG _) fun r3 hr3 => ?_
   apply aB <;> intro hc
   ·refine aC (bG _) fun r4 hr4 => ?_
    apply aA
    grind
   apply aA
   grind
  apply aA
  grind
 apply aA
 grind
end
theorem wX (x : bO) (h0 : x.2.2.2.1.size ≤ 1000000) : Tot (mF x) (fun y => y = true → x.2.2.2.1.size ≤ 80) := by
 unfold mF; try dsimp only
 apply aB <;> intro hc
 ·refine aC (vC _) fun r1 hr1 => ?_
  apply aB <;> intro hc
  ·refine aC (aNc _) fun r2 hr2 => ?_
   apply aA
   grind
  apply aA
  grind
 refine aC (aNc _) fun r3 hr3 => ?_
 apply aA
 grind
end Ab
end
