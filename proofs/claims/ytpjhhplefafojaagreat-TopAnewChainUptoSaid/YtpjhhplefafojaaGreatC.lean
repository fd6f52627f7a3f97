/- The contracts hold. -/
import Derived.Test.YtpjhhplefafojaaGreatK0
import Derived.Test.YtpjhhplefafojaaGreatK1
import Derived.Test.YtpjhhplefafojaaGreatK2
import Derived.Test.YtpjhhplefafojaaGreatK3
import Derived.Test.YtpjhhplefafojaaGreatK4
import Derived.Test.YtpjhhplefafojaaGreatK5
import Derived.Test.YtpjhhplefafojaaGreatK6
import Derived.Test.YtpjhhplefafojaaGreatK7
set_option linter.unusedVariables false
set_option linter.unusedSimpArgs false
open Go Go.Abs Go.Abs.Sx Go.Proofs
namespace Go.Proofs.YtpjhhplefafojaaGreat
set_option maxRecDepth 100000
theorem a0 : AllOk E (conL.take 0) := trivial
theorem good0 : ConOk E con0 := checkCon_ok (cfg := cfg0) (prL_ok (VT.ok_of vtok0)) a0.mem rfl ok0
theorem a1 : AllOk E (conL.take 1) := AllOk.snoc a0 rfl good0
theorem good1 : ConOk E con1 := checkCon_ok (cfg := cfg1) (prL_ok (VT.ok_of vtok1)) a1.mem rfl ok1
theorem a2 : AllOk E (conL.take 2) := AllOk.snoc a1 rfl good1
theorem good2 : ConOk E con2 := checkCon_ok (cfg := cfg2) (prL_ok (VT.ok_of vtok2)) a2.mem rfl ok2
theorem a3 : AllOk E (conL.take 3) := AllOk.snoc a2 rfl good2
theorem good3 : ConOk E con3 := checkCon_ok (cfg := cfg3) (prL_ok (VT.ok_of vtok3)) a3.mem rfl ok3
theorem a4 : AllOk E (conL.take 4) := AllOk.snoc a3 rfl good3
theorem good4 : ConOk E con4 := checkCon_ok (cfg := cfg4) (prL_ok (VT.ok_of vtok4)) a4.mem rfl ok4
theorem a5 : AllOk E (conL.take 5) := AllOk.snoc a4 rfl good4
theorem good5 : ConOk E con5 := checkCon_ok (cfg := cfg5) (prL_ok (VT.ok_of vtok5)) a5.mem rfl ok5
theorem a6 : AllOk E (conL.take 6) := AllOk.snoc a5 rfl good5
theorem good6 : ConOk E con6 := checkCon_ok (cfg := cfg6) (prL_ok (VT.ok_of vtok6)) a6.mem rfl ok6
theorem a7 : AllOk E (conL.take 7) := AllOk.snoc a6 rfl good6
theorem good7 : ConOk E con7 := checkCon_ok (cfg := cfg7) (prL_ok (VT.ok_of vtok7)) a7.mem rfl ok7
theorem a8 : AllOk E (conL.take 8) := AllOk.snoc a7 rfl good7
theorem good8 : ConOk E con8 := checkCon_ok (cfg := cfg8) (prL_ok (VT.ok_of vtok8)) a8.mem rfl ok8
theorem a9 : AllOk E (conL.take 9) := AllOk.snoc a8 rfl good8
theorem good9 : ConOk E con9 := checkCon_ok (cfg := cfg9) (prL_ok (VT.ok_of vtok9)) a9.mem rfl ok9
theorem a10 : AllOk E (conL.take 10) := AllOk.snoc a9 rfl good9
theorem good10 : ConOk E con10 := checkCon_ok (cfg := cfg10) (prL_ok (VT.ok_of vtok10)) a10.mem rfl ok10
theorem a11 : AllOk E (conL.take 11) := AllOk.snoc a10 rfl good10
theorem good11 : ConOk E con11 := checkCon_ok (cfg := cfg11) (prL_ok (VT.ok_of vtok11)) a11.mem rfl ok11
theorem a12 : AllOk E (conL.take 12) := AllOk.snoc a11 rfl good11
theorem good14 : ConOk E con14 := checkCon_ok (cfg := cfg14) (prL_ok (VT.ok_of vtok14)) a12.mem rfl ok14
theorem a13 : AllOk E (conL.take 13) := AllOk.snoc a12 rfl good14
theorem good18 : ConOk E con18 := checkCon_ok (cfg := cfg18) (prL_ok (VT.ok_of vtok18)) a13.mem rfl ok18
theorem a14 : AllOk E (conL.take 14) := AllOk.snoc a13 rfl good18
theorem good20 : ConOk E con20 := checkCon_ok (cfg := cfg20) (prL_ok (VT.ok_of vtok20)) a14.mem rfl ok20
theorem a15 : AllOk E (conL.take 15) := AllOk.snoc a14 rfl good20
theorem good21 : ConOk E con21 := checkCon_ok (cfg := cfg21) (prL_ok (VT.ok_of vtok21)) a15.mem rfl ok21
theorem a16 : AllOk E (conL.take 16) := AllOk.snoc a15 rfl good21
theorem goodR22 : ∀ c ∈ cfg22.recs, ConOk E c := checkRec_ok (cfg := cfg22) (prL_ok (VT.ok_of vtok22)) a16.mem (by
  intro c hc
  simp only [cfg22, List.mem_cons, List.not_mem_nil, or_false] at hc
  rcases hc with rfl | rfl
  · exact ⟨⟨400, an22, ths22, ok22⟩, le22⟩
  · exact ⟨⟨400, an23, ths23, ok23⟩, le23⟩)
theorem good22 : ConOk E con22 := goodR22 con22 (by simp only [cfg22, List.mem_cons]; simp)
theorem good23 : ConOk E con23 := goodR22 con23 (by simp only [cfg22, List.mem_cons]; simp)
theorem a17 : AllOk E (conL.take 17) := AllOk.snoc a16 rfl good22
theorem a18 : AllOk E (conL.take 18) := AllOk.snoc a17 rfl good23
theorem good24 : ConOk E con24 := checkCon_ok (cfg := cfg24) (prL_ok (VT.ok_of vtok24)) a18.mem rfl ok24
theorem a19 : AllOk E (conL.take 19) := AllOk.snoc a18 rfl good24
theorem good25 : ConOk E con25 := checkCon_ok (cfg := cfg25) (prL_ok (VT.ok_of vtok25)) a19.mem rfl ok25
theorem a20 : AllOk E (conL.take 20) := AllOk.snoc a19 rfl good25
theorem goodR27 : ∀ c ∈ cfg27.recs, ConOk E c := checkRec_ok (cfg := cfg27) (prL_ok (VT.ok_of vtok27)) a20.mem (by
  intro c hc
  simp only [cfg27, List.mem_cons, List.not_mem_nil, or_false] at hc
  rcases hc with rfl
  · exact ⟨⟨400, an27, ths27, ok27⟩, le27⟩)
theorem good27 : ConOk E con27 := goodR27 con27 (by simp only [cfg27, List.mem_cons]; simp)
theorem a21 : AllOk E (conL.take 21) := AllOk.snoc a20 rfl good27
theorem good31 : ConOk E con31 := checkCon_ok (cfg := cfg31) (prL_ok (VT.ok_of vtok31)) a21.mem rfl ok31
theorem a22 : AllOk E (conL.take 22) := AllOk.snoc a21 rfl good31
theorem goodR33 : ∀ c ∈ cfg33.recs, ConOk E c := checkRec_ok (cfg := cfg33) (prL_ok (VT.ok_of vtok33)) a22.mem (by
  intro c hc
  simp only [cfg33, List.mem_cons, List.not_mem_nil, or_false] at hc
  rcases hc with rfl
  · exact ⟨⟨400, an33, ths33, ok33⟩, le33⟩)
theorem good33 : ConOk E con33 := goodR33 con33 (by simp only [cfg33, List.mem_cons]; simp)
theorem a23 : AllOk E (conL.take 23) := AllOk.snoc a22 rfl good33
theorem good34 : ConOk E con34 := checkCon_ok (cfg := cfg34) (prL_ok (VT.ok_of vtok34)) a23.mem rfl ok34
theorem a24 : AllOk E (conL.take 24) := AllOk.snoc a23 rfl good34
theorem good35 : ConOk E con35 := checkCon_ok (cfg := cfg35) (prL_ok (VT.ok_of vtok35)) a24.mem rfl ok35
theorem a25 : AllOk E (conL.take 25) := AllOk.snoc a24 rfl good35
theorem goodR36 : ∀ c ∈ cfg36.recs, ConOk E c := checkRec_ok (cfg := cfg36) (prL_ok (VT.ok_of vtok36)) a25.mem (by
  intro c hc
  simp only [cfg36, List.mem_cons, List.not_mem_nil, or_false] at hc
  rcases hc with rfl | rfl
  · exact ⟨⟨400, an36, ths36, ok36⟩, le36⟩
  · exact ⟨⟨400, an37, ths37, ok37⟩, le37⟩)
theorem good36 : ConOk E con36 := goodR36 con36 (by simp only [cfg36, List.mem_cons]; simp)
theorem good37 : ConOk E con37 := goodR36 con37 (by simp only [cfg36, List.mem_cons]; simp)
theorem a26 : AllOk E (conL.take 26) := AllOk.snoc a25 rfl good36
theorem a27 : AllOk E (conL.take 27) := AllOk.snoc a26 rfl good37
theorem goodR42 : ∀ c ∈ cfg42.recs, ConOk E c := checkRec_ok (cfg := cfg42) (prL_ok (VT.ok_of vtok42)) a27.mem (by
  intro c hc
  simp only [cfg42, List.mem_cons, List.not_mem_nil, or_false] at hc
  rcases hc with rfl
  · exact ⟨⟨400, an42, ths42, ok42⟩, le42⟩)
theorem good42 : ConOk E con42 := goodR42 con42 (by simp only [cfg42, List.mem_cons]; simp)
theorem a28 : AllOk E (conL.take 28) := AllOk.snoc a27 rfl good42
theorem good43 : ConOk E con43 := checkCon_ok (cfg := cfg43) (prL_ok (VT.ok_of vtok43)) a28.mem rfl ok43
theorem a29 : AllOk E (conL.take 29) := AllOk.snoc a28 rfl good43
theorem good44 : ConOk E con44 := checkCon_ok (cfg := cfg44) (prL_ok (VT.ok_of vtok44)) a29.mem rfl ok44
theorem good45 : ConOk E con45 := checkCon_ok (cfg := cfg45) (prL_ok (VT.ok_of vtok45)) a29.mem rfl ok45
theorem good46 : ConOk E con46 := checkCon_ok (cfg := cfg46) (prL_ok (VT.ok_of vtok46)) a29.mem rfl ok46
theorem good47 : ConOk E con47 := checkCon_ok (cfg := cfg47) (prL_ok (VT.ok_of vtok47)) a29.mem rfl ok47
theorem good48 : ConOk E con48 := checkCon_ok (cfg := cfg48) (prL_ok (VT.ok_of vtok48)) a29.mem rfl ok48
theorem a30 : AllOk E (conL.take 30) := AllOk.snoc a29 rfl good48
theorem good49 : ConOk E con49 := checkCon_ok (cfg := cfg49) (prL_ok (VT.ok_of vtok49)) a30.mem rfl ok49
theorem a31 : AllOk E (conL.take 31) := AllOk.snoc a30 rfl good49
theorem good50 : ConOk E con50 := checkCon_ok (cfg := cfg50) (prL_ok (VT.ok_of vtok50)) a31.mem rfl ok50
theorem a32 : AllOk E (conL.take 32) := AllOk.snoc a31 rfl good50
theorem good51 : ConOk E con51 := checkCon_ok (cfg := cfg51) (prL_ok (VT.ok_of vtok51)) a32.mem rfl ok51
theorem good52 : ConOk E con52 := checkCon_ok (cfg := cfg52) (prL_ok (VT.ok_of vtok52)) a32.mem rfl ok52
theorem good53 : ConOk E con53 := checkCon_ok (cfg := cfg53) (prL_ok (VT.ok_of vtok53)) a32.mem rfl ok53
theorem good54 : ConOk E con54 := checkCon_ok (cfg := cfg54) (prL_ok (VT.ok_of vtok54)) a32.mem rfl ok54
theorem good55 : ConOk E con55 := checkCon_ok (cfg := cfg55) (prL_ok (VT.ok_of vtok55)) a32.mem rfl ok55
theorem a33 : AllOk E (conL.take 33) := AllOk.snoc a32 rfl good55
theorem good56 : ConOk E con56 := checkCon_ok (cfg := cfg56) (prL_ok (VT.ok_of vtok56)) a33.mem rfl ok56
theorem a34 : AllOk E (conL.take 34) := AllOk.snoc a33 rfl good56
theorem good57 : ConOk E con57 := checkCon_ok (cfg := cfg57) (prL_ok (VT.ok_of vtok57)) a34.mem rfl ok57
theorem good58 : ConOk E con58 := checkCon_ok (cfg := cfg58) (prL_ok (VT.ok_of vtok58)) a34.mem rfl ok58
theorem good59 : ConOk E con59 := checkCon_ok (cfg := cfg59) (prL_ok (VT.ok_of vtok59)) a34.mem rfl ok59
theorem a35 : AllOk E (conL.take 35) := AllOk.snoc a34 rfl good59
theorem good60 : ConOk E con60 := checkCon_ok (cfg := cfg60) (prL_ok (VT.ok_of vtok60)) a35.mem rfl ok60
theorem a36 : AllOk E (conL.take 36) := AllOk.snoc a35 rfl good60
theorem good61 : ConOk E con61 := checkCon_ok (cfg := cfg61) (prL_ok (VT.ok_of vtok61)) a36.mem rfl ok61
theorem good62 : ConOk E con62 := checkCon_ok (cfg := cfg62) (prL_ok (VT.ok_of vtok62)) a36.mem rfl ok62
theorem good63 : ConOk E con63 := checkCon_ok (cfg := cfg63) (prL_ok (VT.ok_of vtok63)) a36.mem rfl ok63
theorem a37 : AllOk E (conL.take 37) := AllOk.snoc a36 rfl good63
theorem good64 : ConOk E con64 := checkCon_ok (cfg := cfg64) (prL_ok (VT.ok_of vtok64)) a37.mem rfl ok64
theorem a38 : AllOk E (conL.take 38) := AllOk.snoc a37 rfl good64
theorem good65 : ConOk E con65 := checkCon_ok (cfg := cfg65) (prL_ok (VT.ok_of vtok65)) a38.mem rfl ok65
theorem a39 : AllOk E (conL.take 39) := AllOk.snoc a38 rfl good65
theorem good66 : ConOk E con66 := checkCon_ok (cfg := cfg66) (prL_ok (VT.ok_of vtok66)) a39.mem rfl ok66
theorem good67 : ConOk E con67 := checkCon_ok (cfg := cfg67) (prL_ok (VT.ok_of vtok67)) a39.mem rfl ok67
end Go.Proofs.YtpjhhplefafojaaGreat
