/- RowOf answers the document's table. -/
import Derived.Test.YtknkfimpflodeaaTab
import Derived.Test.YtknkfimpflodeaaRow0
import Derived.Test.YtknkfimpflodeaaRow1
import Derived.Test.YtknkfimpflodeaaRow2
import Derived.Test.YtknkfimpflodeaaRow3
import Derived.Test.YtknkfimpflodeaaRow4
import Derived.Test.YtknkfimpflodeaaRow5
namespace Go.Proofs.Ytknkfimpflodeaa.P
open Go.RowKit
theorem mezzanineref09_RowOf.calls (a0 : Int) (r1 : ByteArray) (r2 r3 r4 : Int) (w : World) (h : mezzanineref09_RowOf.f a0 = some (r1, r2, r3, r4)) :
    Calls Try.prog 22 #[.int .i64 a0] w fun e w' => e = .returned (.agg #[.string r1, .int .u32 r2, .int .u32 r3, .int .u8 r4]) ∧ Below w.heap.size w w' := by
  have H := Option.some.inj h
  clear h
  by_cases h1 : a0 < 1
  · have e : rowR a0 = rowZ := by unfold rowR; rw [if_neg (by omega)]
    rw [e] at H
    obtain ⟨rfl, rfl, rfl, rfl⟩ : _ ∧ _ ∧ _ ∧ _ := by simpa [rowZ] using H
    exact row_low a0 h1 w
  by_cases h2 : 113 < a0
  · have e : rowR a0 = rowZ := by unfold rowR; rw [if_neg (by omega)]
    rw [e] at H
    obtain ⟨rfl, rfl, rfl, rfl⟩ : _ ∧ _ ∧ _ ∧ _ := by simpa [rowZ] using H
    exact row_high a0 h2 w
  by_cases c1 : a0 ≤ 57
  · skip
    by_cases c2 : a0 ≤ 29
    · skip
      by_cases c3 : a0 ≤ 15
      · skip
        by_cases c4 : a0 ≤ 8
        · skip
          by_cases c5 : a0 ≤ 4
          · skip
            by_cases c6 : a0 ≤ 2
            · skip
              by_cases c7 : a0 ≤ 1
              · skip
                obtain rfl : a0 = 1 := by omega
                cases H
                exact row1 w
              · skip
                obtain rfl : a0 = 2 := by omega
                cases H
                exact row2 w
            · skip
              by_cases c7 : a0 ≤ 3
              · skip
                obtain rfl : a0 = 3 := by omega
                cases H
                exact row3 w
              · skip
                obtain rfl : a0 = 4 := by omega
                cases H
                exact row4 w
          · skip
            by_cases c6 : a0 ≤ 6
            · skip
              by_cases c7 : a0 ≤ 5
              · skip
                obtain rfl : a0 = 5 := by omega
                cases H
                exact row5 w
              · skip
                obtain rfl : a0 = 6 := by omega
                cases H
                exact row6 w
            · skip
              by_cases c7 : a0 ≤ 7
              · skip
                obtain rfl : a0 = 7 := by omega
                cases H
                exact row7 w
              · skip
                obtain rfl : a0 = 8 := by omega
                cases H
                exact row8 w
        · skip
          by_cases c5 : a0 ≤ 12
          · skip
            by_cases c6 : a0 ≤ 10
            · skip
              by_cases c7 : a0 ≤ 9
              · skip
                obtain rfl : a0 = 9 := by omega
                cases H
                exact row9 w
              · skip
                obtain rfl : a0 = 10 := by omega
                cases H
                exact row10 w
            · skip
              by_cases c7 : a0 ≤ 11
              · skip
                obtain rfl : a0 = 11 := by omega
                cases H
                exact row11 w
              · skip
                obtain rfl : a0 = 12 := by omega
                cases H
                exact row12 w
          · skip
            by_cases c6 : a0 ≤ 14
            · skip
              by_cases c7 : a0 ≤ 13
              · skip
                obtain rfl : a0 = 13 := by omega
                cases H
                exact row13 w
              · skip
                obtain rfl : a0 = 14 := by omega
                cases H
                exact row14 w
            · skip
              obtain rfl : a0 = 15 := by omega
              cases H
              exact row15 w
      · skip
        by_cases c4 : a0 ≤ 22
        · skip
          by_cases c5 : a0 ≤ 19
          · skip
            by_cases c6 : a0 ≤ 17
            · skip
              by_cases c7 : a0 ≤ 16
              · skip
                obtain rfl : a0 = 16 := by omega
                cases H
                exact row16 w
              · skip
                obtain rfl : a0 = 17 := by omega
                cases H
                exact row17 w
            · skip
              by_cases c7 : a0 ≤ 18
              · skip
                obtain rfl : a0 = 18 := by omega
                cases H
                exact row18 w
              · skip
                obtain rfl : a0 = 19 := by omega
                cases H
                exact row19 w
          · skip
            by_cases c6 : a0 ≤ 21
            · skip
              by_cases c7 : a0 ≤ 20
              · skip
                obtain rfl : a0 = 20 := by omega
                cases H
                exact row20 w
              · skip
                obtain rfl : a0 = 21 := by omega
                cases H
                exact row21 w
            · skip
              obtain rfl : a0 = 22 := by omega
              cases H
              exact row22 w
        · skip
          by_cases c5 : a0 ≤ 26
          · skip
            by_cases c6 : a0 ≤ 24
            · skip
              by_cases c7 : a0 ≤ 23
              · skip
                obtain rfl : a0 = 23 := by omega
                cases H
                exact row23 w
              · skip
                obtain rfl : a0 = 24 := by omega
                cases H
                exact row24 w
            · skip
              by_cases c7 : a0 ≤ 25
              · skip
                obtain rfl : a0 = 25 := by omega
                cases H
                exact row25 w
              · skip
                obtain rfl : a0 = 26 := by omega
                cases H
                exact row26 w
          · skip
            by_cases c6 : a0 ≤ 28
            · skip
              by_cases c7 : a0 ≤ 27
              · skip
                obtain rfl : a0 = 27 := by omega
                cases H
                exact row27 w
              · skip
                obtain rfl : a0 = 28 := by omega
                cases H
                exact row28 w
            · skip
              obtain rfl : a0 = 29 := by omega
              cases H
              exact row29 w
    · skip
      by_cases c3 : a0 ≤ 43
      · skip
        by_cases c4 : a0 ≤ 36
        · skip
          by_cases c5 : a0 ≤ 33
          · skip
            by_cases c6 : a0 ≤ 31
            · skip
              by_cases c7 : a0 ≤ 30
              · skip
                obtain rfl : a0 = 30 := by omega
                cases H
                exact row30 w
              · skip
                obtain rfl : a0 = 31 := by omega
                cases H
                exact row31 w
            · skip
              by_cases c7 : a0 ≤ 32
              · skip
                obtain rfl : a0 = 32 := by omega
                cases H
                exact row32 w
              · skip
                obtain rfl : a0 = 33 := by omega
                cases H
                exact row33 w
          · skip
            by_cases c6 : a0 ≤ 35
            · skip
              by_cases c7 : a0 ≤ 34
              · skip
                obtain rfl : a0 = 34 := by omega
                cases H
                exact row34 w
              · skip
                obtain rfl : a0 = 35 := by omega
                cases H
                exact row35 w
            · skip
              obtain rfl : a0 = 36 := by omega
              cases H
              exact row36 w
        · skip
          by_cases c5 : a0 ≤ 40
          · skip
            by_cases c6 : a0 ≤ 38
            · skip
              by_cases c7 : a0 ≤ 37
              · skip
                obtain rfl : a0 = 37 := by omega
                cases H
                exact row37 w
              · skip
                obtain rfl : a0 = 38 := by omega
                cases H
                exact row38 w
            · skip
              by_cases c7 : a0 ≤ 39
              · skip
                obtain rfl : a0 = 39 := by omega
                cases H
                exact row39 w
              · skip
                obtain rfl : a0 = 40 := by omega
                cases H
                exact row40 w
          · skip
            by_cases c6 : a0 ≤ 42
            · skip
              by_cases c7 : a0 ≤ 41
              · skip
                obtain rfl : a0 = 41 := by omega
                cases H
                exact row41 w
              · skip
                obtain rfl : a0 = 42 := by omega
                cases H
                exact row42 w
            · skip
              obtain rfl : a0 = 43 := by omega
              cases H
              exact row43 w
      · skip
        by_cases c4 : a0 ≤ 50
        · skip
          by_cases c5 : a0 ≤ 47
          · skip
            by_cases c6 : a0 ≤ 45
            · skip
              by_cases c7 : a0 ≤ 44
              · skip
                obtain rfl : a0 = 44 := by omega
                cases H
                exact row44 w
              · skip
                obtain rfl : a0 = 45 := by omega
                cases H
                exact row45 w
            · skip
              by_cases c7 : a0 ≤ 46
              · skip
                obtain rfl : a0 = 46 := by omega
                cases H
                exact row46 w
              · skip
                obtain rfl : a0 = 47 := by omega
                cases H
                exact row47 w
          · skip
            by_cases c6 : a0 ≤ 49
            · skip
              by_cases c7 : a0 ≤ 48
              · skip
                obtain rfl : a0 = 48 := by omega
                cases H
                exact row48 w
              · skip
                obtain rfl : a0 = 49 := by omega
                cases H
                exact row49 w
            · skip
              obtain rfl : a0 = 50 := by omega
              cases H
              exact row50 w
        · skip
          by_cases c5 : a0 ≤ 54
          · skip
            by_cases c6 : a0 ≤ 52
            · skip
              by_cases c7 : a0 ≤ 51
              · skip
                obtain rfl : a0 = 51 := by omega
                cases H
                exact row51 w
              · skip
                obtain rfl : a0 = 52 := by omega
                cases H
                exact row52 w
            · skip
              by_cases c7 : a0 ≤ 53
              · skip
                obtain rfl : a0 = 53 := by omega
                cases H
                exact row53 w
              · skip
                obtain rfl : a0 = 54 := by omega
                cases H
                exact row54 w
          · skip
            by_cases c6 : a0 ≤ 56
            · skip
              by_cases c7 : a0 ≤ 55
              · skip
                obtain rfl : a0 = 55 := by omega
                cases H
                exact row55 w
              · skip
                obtain rfl : a0 = 56 := by omega
                cases H
                exact row56 w
            · skip
              obtain rfl : a0 = 57 := by omega
              cases H
              exact row57 w
  · skip
    by_cases c2 : a0 ≤ 85
    · skip
      by_cases c3 : a0 ≤ 71
      · skip
        by_cases c4 : a0 ≤ 64
        · skip
          by_cases c5 : a0 ≤ 61
          · skip
            by_cases c6 : a0 ≤ 59
            · skip
              by_cases c7 : a0 ≤ 58
              · skip
                obtain rfl : a0 = 58 := by omega
                cases H
                exact row58 w
              · skip
                obtain rfl : a0 = 59 := by omega
                cases H
                exact row59 w
            · skip
              by_cases c7 : a0 ≤ 60
              · skip
                obtain rfl : a0 = 60 := by omega
                cases H
                exact row60 w
              · skip
                obtain rfl : a0 = 61 := by omega
                cases H
                exact row61 w
          · skip
            by_cases c6 : a0 ≤ 63
            · skip
              by_cases c7 : a0 ≤ 62
              · skip
                obtain rfl : a0 = 62 := by omega
                cases H
                exact row62 w
              · skip
                obtain rfl : a0 = 63 := by omega
                cases H
                exact row63 w
            · skip
              obtain rfl : a0 = 64 := by omega
              cases H
              exact row64 w
        · skip
          by_cases c5 : a0 ≤ 68
          · skip
            by_cases c6 : a0 ≤ 66
            · skip
              by_cases c7 : a0 ≤ 65
              · skip
                obtain rfl : a0 = 65 := by omega
                cases H
                exact row65 w
              · skip
                obtain rfl : a0 = 66 := by omega
                cases H
                exact row66 w
            · skip
              by_cases c7 : a0 ≤ 67
              · skip
                obtain rfl : a0 = 67 := by omega
                cases H
                exact row67 w
              · skip
                obtain rfl : a0 = 68 := by omega
                cases H
                exact row68 w
          · skip
            by_cases c6 : a0 ≤ 70
            · skip
              by_cases c7 : a0 ≤ 69
              · skip
                obtain rfl : a0 = 69 := by omega
                cases H
                exact row69 w
              · skip
                obtain rfl : a0 = 70 := by omega
                cases H
                exact row70 w
            · skip
              obtain rfl : a0 = 71 := by omega
              cases H
              exact row71 w
      · skip
        by_cases c4 : a0 ≤ 78
        · skip
          by_cases c5 : a0 ≤ 75
          · skip
            by_cases c6 : a0 ≤ 73
            · skip
              by_cases c7 : a0 ≤ 72
              · skip
                obtain rfl : a0 = 72 := by omega
                cases H
                exact row72 w
              · skip
                obtain rfl : a0 = 73 := by omega
                cases H
                exact row73 w
            · skip
              by_cases c7 : a0 ≤ 74
              · skip
                obtain rfl : a0 = 74 := by omega
                cases H
                exact row74 w
              · skip
                obtain rfl : a0 = 75 := by omega
                cases H
                exact row75 w
          · skip
            by_cases c6 : a0 ≤ 77
            · skip
              by_cases c7 : a0 ≤ 76
              · skip
                obtain rfl : a0 = 76 := by omega
                cases H
                exact row76 w
              · skip
                obtain rfl : a0 = 77 := by omega
                cases H
                exact row77 w
            · skip
              obtain rfl : a0 = 78 := by omega
              cases H
              exact row78 w
        · skip
          by_cases c5 : a0 ≤ 82
          · skip
            by_cases c6 : a0 ≤ 80
            · skip
              by_cases c7 : a0 ≤ 79
              · skip
                obtain rfl : a0 = 79 := by omega
                cases H
                exact row79 w
              · skip
                obtain rfl : a0 = 80 := by omega
                cases H
                exact row80 w
            · skip
              by_cases c7 : a0 ≤ 81
              · skip
                obtain rfl : a0 = 81 := by omega
                cases H
                exact row81 w
              · skip
                obtain rfl : a0 = 82 := by omega
                cases H
                exact row82 w
          · skip
            by_cases c6 : a0 ≤ 84
            · skip
              by_cases c7 : a0 ≤ 83
              · skip
                obtain rfl : a0 = 83 := by omega
                cases H
                exact row83 w
              · skip
                obtain rfl : a0 = 84 := by omega
                cases H
                exact row84 w
            · skip
              obtain rfl : a0 = 85 := by omega
              cases H
              exact row85 w
    · skip
      by_cases c3 : a0 ≤ 99
      · skip
        by_cases c4 : a0 ≤ 92
        · skip
          by_cases c5 : a0 ≤ 89
          · skip
            by_cases c6 : a0 ≤ 87
            · skip
              by_cases c7 : a0 ≤ 86
              · skip
                obtain rfl : a0 = 86 := by omega
                cases H
                exact row86 w
              · skip
                obtain rfl : a0 = 87 := by omega
                cases H
                exact row87 w
            · skip
              by_cases c7 : a0 ≤ 88
              · skip
                obtain rfl : a0 = 88 := by omega
                cases H
                exact row88 w
              · skip
                obtain rfl : a0 = 89 := by omega
                cases H
                exact row89 w
          · skip
            by_cases c6 : a0 ≤ 91
            · skip
              by_cases c7 : a0 ≤ 90
              · skip
                obtain rfl : a0 = 90 := by omega
                cases H
                exact row90 w
              · skip
                obtain rfl : a0 = 91 := by omega
                cases H
                exact row91 w
            · skip
              obtain rfl : a0 = 92 := by omega
              cases H
              exact row92 w
        · skip
          by_cases c5 : a0 ≤ 96
          · skip
            by_cases c6 : a0 ≤ 94
            · skip
              by_cases c7 : a0 ≤ 93
              · skip
                obtain rfl : a0 = 93 := by omega
                cases H
                exact row93 w
              · skip
                obtain rfl : a0 = 94 := by omega
                cases H
                exact row94 w
            · skip
              by_cases c7 : a0 ≤ 95
              · skip
                obtain rfl : a0 = 95 := by omega
                cases H
                exact row95 w
              · skip
                obtain rfl : a0 = 96 := by omega
                cases H
                exact row96 w
          · skip
            by_cases c6 : a0 ≤ 98
            · skip
              by_cases c7 : a0 ≤ 97
              · skip
                obtain rfl : a0 = 97 := by omega
                cases H
                exact row97 w
              · skip
                obtain rfl : a0 = 98 := by omega
                cases H
                exact row98 w
            · skip
              obtain rfl : a0 = 99 := by omega
              cases H
              exact row99 w
      · skip
        by_cases c4 : a0 ≤ 106
        · skip
          by_cases c5 : a0 ≤ 103
          · skip
            by_cases c6 : a0 ≤ 101
            · skip
              by_cases c7 : a0 ≤ 100
              · skip
                obtain rfl : a0 = 100 := by omega
                cases H
                exact row100 w
              · skip
                obtain rfl : a0 = 101 := by omega
                cases H
                exact row101 w
            · skip
              by_cases c7 : a0 ≤ 102
              · skip
                obtain rfl : a0 = 102 := by omega
                cases H
                exact row102 w
              · skip
                obtain rfl : a0 = 103 := by omega
                cases H
                exact row103 w
          · skip
            by_cases c6 : a0 ≤ 105
            · skip
              by_cases c7 : a0 ≤ 104
              · skip
                obtain rfl : a0 = 104 := by omega
                cases H
                exact row104 w
              · skip
                obtain rfl : a0 = 105 := by omega
                cases H
                exact row105 w
            · skip
              obtain rfl : a0 = 106 := by omega
              cases H
              exact row106 w
        · skip
          by_cases c5 : a0 ≤ 110
          · skip
            by_cases c6 : a0 ≤ 108
            · skip
              by_cases c7 : a0 ≤ 107
              · skip
                obtain rfl : a0 = 107 := by omega
                cases H
                exact row107 w
              · skip
                obtain rfl : a0 = 108 := by omega
                cases H
                exact row108 w
            · skip
              by_cases c7 : a0 ≤ 109
              · skip
                obtain rfl : a0 = 109 := by omega
                cases H
                exact row109 w
              · skip
                obtain rfl : a0 = 110 := by omega
                cases H
                exact row110 w
          · skip
            by_cases c6 : a0 ≤ 112
            · skip
              by_cases c7 : a0 ≤ 111
              · skip
                obtain rfl : a0 = 111 := by omega
                cases H
                exact row111 w
              · skip
                obtain rfl : a0 = 112 := by omega
                cases H
                exact row112 w
            · skip
              obtain rfl : a0 = 113 := by omega
              cases H
              exact row113 w
end Go.Proofs.Ytknkfimpflodeaa.P
