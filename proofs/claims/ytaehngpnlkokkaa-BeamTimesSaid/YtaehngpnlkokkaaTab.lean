/-
  Facts on the program tables.
-/
import Derived.Test.YtaehngpnlkokkaaProg
import Derived.Test.YtaehngpnlkokkaaDraw
import Derived.Test.YtaehngpnlkokkaaTrk
import Derived.KernelRfl
namespace Go.Proofs.Ytaehngpnlkokkaa
theorem tk1 : tK Try.prog 1 = some (false, 1) := by kernel_rfl
theorem tk2 : tK Try.prog 2 = some (false, 1) := by kernel_rfl
theorem tk3 : tK Try.prog 3 = some (false, 1) := by kernel_rfl
theorem tk4 : tK Try.prog 4 = some (false, 1) := by kernel_rfl
theorem tk5 : tK Try.prog 5 = some (false, 1) := by kernel_rfl
theorem tk6 : tK Try.prog 6 = some (false, 1) := by kernel_rfl
theorem tk7 : tK Try.prog 7 = some (true, 4) := by kernel_rfl
theorem tk8 : tK Try.prog 8 = some (true, 4) := by kernel_rfl
theorem tk12 : tK Try.prog 12 = some (false, 1) := by kernel_rfl
theorem tk15 : tK Try.prog 15 = some (false, 1) := by kernel_rfl
theorem tk16 : tK Try.prog 16 = some (false, 1) := by kernel_rfl
theorem tk17 : tK Try.prog 17 = some (false, 1) := by kernel_rfl
theorem tk18 : tK Try.prog 18 = some (true, 1) := by kernel_rfl
theorem tk19 : tK Try.prog 19 = some (true, 1) := by kernel_rfl
theorem tk21 : tK Try.prog 21 = some (false, 1) := by kernel_rfl
theorem tk22 : tK Try.prog 22 = some (false, 1) := by kernel_rfl
theorem tk23 : tK Try.prog 23 = some (true, 1) := by kernel_rfl
theorem tk24 : tK Try.prog 24 = some (true, 1) := by kernel_rfl
theorem tk25 : tK Try.prog 25 = some (false, 1) := by kernel_rfl
theorem tk26 : tK Try.prog 26 = some (false, 1) := by kernel_rfl
theorem tk27 : tK Try.prog 27 = some (true, 7) := by kernel_rfl
theorem tk28 : tK Try.prog 28 = some (true, 7) := by kernel_rfl
theorem tk29 : tK Try.prog 29 = some (true, 2) := by kernel_rfl
theorem tk30 : tK Try.prog 30 = some (true, 2) := by kernel_rfl
theorem tk31 : tK Try.prog 31 = some (false, 1) := by kernel_rfl
theorem tk32 : tK Try.prog 32 = some (false, 1) := by kernel_rfl
theorem tk33 : tK Try.prog 33 = some (true, 2) := by kernel_rfl
theorem tk34 : tK Try.prog 34 = some (true, 2) := by kernel_rfl
theorem tk35 : tK Try.prog 35 = some (false, 1) := by kernel_rfl
theorem tk37 : tK Try.prog 37 = some (false, 1) := by kernel_rfl
theorem tk39 : tK Try.prog 39 = some (false, 1) := by kernel_rfl
theorem tk40 : tK Try.prog 40 = some (false, 1) := by kernel_rfl
theorem tk41 : tK Try.prog 41 = some (false, 1) := by kernel_rfl
theorem tk43 : tK Try.prog 43 = some (false, 1) := by kernel_rfl
theorem tk45 : tK Try.prog 45 = some (false, 1) := by kernel_rfl
theorem tk46 : tK Try.prog 46 = some (false, 1) := by kernel_rfl
theorem tk47 : tK Try.prog 47 = some (false, 1) := by kernel_rfl
theorem tk48 : tK Try.prog 48 = some (false, 1) := by kernel_rfl
theorem tk49 : tK Try.prog 49 = some (false, 1) := by kernel_rfl
theorem tk50 : tK Try.prog 50 = some (false, 1) := by kernel_rfl
theorem tk51 : tK Try.prog 51 = some (false, 1) := by kernel_rfl
theorem tk52 : tK Try.prog 52 = some (true, 3) := by kernel_rfl
theorem tk53 : tK Try.prog 53 = some (true, 3) := by kernel_rfl
theorem tk54 : tK Try.prog 54 = some (true, 4) := by kernel_rfl
theorem tk55 : tK Try.prog 55 = some (true, 4) := by kernel_rfl
theorem tk56 : tK Try.prog 56 = some (false, 1) := by kernel_rfl
theorem tk57 : tK Try.prog 57 = some (false, 1) := by kernel_rfl
theorem tk59 : tK Try.prog 59 = some (false, 1) := by kernel_rfl
theorem tk60 : tK Try.prog 60 = some (true, 3) := by kernel_rfl
theorem tk61 : tK Try.prog 61 = some (true, 3) := by kernel_rfl
theorem tk62 : tK Try.prog 62 = some (false, 1) := by kernel_rfl
theorem tk63 : tK Try.prog 63 = some (true, 2) := by kernel_rfl
theorem tk64 : tK Try.prog 64 = some (true, 2) := by kernel_rfl
theorem tk65 : tK Try.prog 65 = some (false, 1) := by kernel_rfl
theorem tk66 : tK Try.prog 66 = some (false, 1) := by kernel_rfl
theorem tk67 : tK Try.prog 67 = some (false, 1) := by kernel_rfl
theorem tk68 : tK Try.prog 68 = some (true, 3) := by kernel_rfl
theorem tk69 : tK Try.prog 69 = some (true, 3) := by kernel_rfl
theorem tk70 : tK Try.prog 70 = some (false, 1) := by kernel_rfl
theorem tk71 : tK Try.prog 71 = some (false, 1) := by kernel_rfl
theorem tk73 : tK Try.prog 73 = some (false, 1) := by kernel_rfl
theorem tk74 : tK Try.prog 74 = some (false, 1) := by kernel_rfl
theorem tk75 : tK Try.prog 75 = some (false, 1) := by kernel_rfl
theorem tk76 : tK Try.prog 76 = some (false, 1) := by kernel_rfl
theorem tk77 : tK Try.prog 77 = some (false, 1) := by kernel_rfl
theorem tk78 : tK Try.prog 78 = some (false, 1) := by kernel_rfl
theorem tk80 : tK Try.prog 80 = some (false, 1) := by kernel_rfl
theorem tk81 : tK Try.prog 81 = some (false, 1) := by kernel_rfl
theorem tk82 : tK Try.prog 82 = some (true, 2) := by kernel_rfl
theorem tk83 : tK Try.prog 83 = some (true, 2) := by kernel_rfl
theorem tk85 : tK Try.prog 85 = some (false, 1) := by kernel_rfl
theorem tk86 : tK Try.prog 86 = some (false, 1) := by kernel_rfl
theorem tk87 : tK Try.prog 87 = some (false, 1) := by kernel_rfl
theorem tk88 : tK Try.prog 88 = some (false, 1) := by kernel_rfl
theorem tk89 : tK Try.prog 89 = some (false, 1) := by kernel_rfl
theorem tk90 : tK Try.prog 90 = some (false, 1) := by kernel_rfl
theorem tk91 : tK Try.prog 91 = some (false, 1) := by kernel_rfl
theorem tk92 : tK Try.prog 92 = some (false, 1) := by kernel_rfl
theorem tk93 : tK Try.prog 93 = some (false, 1) := by kernel_rfl
theorem tk94 : tK Try.prog 94 = some (false, 1) := by kernel_rfl
theorem tk95 : tK Try.prog 95 = some (false, 1) := by kernel_rfl
theorem tk96 : tK Try.prog 96 = some (false, 1) := by kernel_rfl
theorem tk97 : tK Try.prog 97 = some (false, 1) := by kernel_rfl
theorem tk98 : tK Try.prog 98 = some (false, 1) := by kernel_rfl
theorem tk100 : tK Try.prog 100 = some (false, 1) := by kernel_rfl
theorem tk101 : tK Try.prog 101 = some (false, 1) := by kernel_rfl
theorem tk102 : tK Try.prog 102 = some (false, 1) := by kernel_rfl
theorem tk103 : tK Try.prog 103 = some (true, 1) := by kernel_rfl
theorem tk104 : tK Try.prog 104 = some (true, 4) := by kernel_rfl
theorem tk105 : tK Try.prog 105 = some (false, 1) := by kernel_rfl
theorem tk106 : tK Try.prog 106 = some (false, 1) := by kernel_rfl
theorem tk107 : tK Try.prog 107 = some (false, 1) := by kernel_rfl
theorem tk109 : tK Try.prog 109 = some (false, 1) := by kernel_rfl
theorem tk110 : tK Try.prog 110 = some (false, 1) := by kernel_rfl
theorem tk111 : tK Try.prog 111 = some (false, 1) := by kernel_rfl
theorem tk112 : tK Try.prog 112 = some (false, 1) := by kernel_rfl
theorem tk113 : tK Try.prog 113 = some (false, 1) := by kernel_rfl
theorem tk114 : tK Try.prog 114 = some (false, 1) := by kernel_rfl
theorem tk115 : tK Try.prog 115 = some (false, 1) := by kernel_rfl
theorem tk116 : tK Try.prog 116 = some (true, 1) := by kernel_rfl
theorem tk117 : tK Try.prog 117 = some (true, 1) := by kernel_rfl
theorem tk119 : tK Try.prog 119 = some (false, 1) := by kernel_rfl
theorem tk120 : tK Try.prog 120 = some (false, 1) := by kernel_rfl
theorem tk122 : tK Try.prog 122 = some (false, 1) := by kernel_rfl
theorem tk123 : tK Try.prog 123 = some (false, 1) := by kernel_rfl
theorem tk124 : tK Try.prog 124 = some (false, 1) := by kernel_rfl
theorem tk125 : tK Try.prog 125 = some (true, 9) := by kernel_rfl
theorem tk126 : tK Try.prog 126 = some (true, 9) := by kernel_rfl
theorem tk127 : tK Try.prog 127 = some (false, 1) := by kernel_rfl
theorem tk128 : tK Try.prog 128 = some (false, 1) := by kernel_rfl
theorem tk129 : tK Try.prog 129 = some (false, 1) := by kernel_rfl
theorem tk130 : tK Try.prog 130 = some (false, 1) := by kernel_rfl
theorem tk131 : tK Try.prog 131 = some (false, 1) := by kernel_rfl
theorem tk132 : tK Try.prog 132 = some (false, 1) := by kernel_rfl
theorem tk133 : tK Try.prog 133 = some (false, 1) := by kernel_rfl
theorem tk134 : tK Try.prog 134 = some (false, 1) := by kernel_rfl
theorem tk135 : tK Try.prog 135 = some (false, 1) := by kernel_rfl
theorem tk136 : tK Try.prog 136 = some (false, 1) := by kernel_rfl
theorem tk137 : tK Try.prog 137 = some (false, 1) := by kernel_rfl
theorem tk138 : tK Try.prog 138 = some (false, 1) := by kernel_rfl
theorem tk139 : tK Try.prog 139 = some (false, 1) := by kernel_rfl
theorem tk140 : tK Try.prog 140 = some (false, 1) := by kernel_rfl
theorem tk141 : tK Try.prog 141 = some (true, 14) := by kernel_rfl
theorem tk142 : tK Try.prog 142 = some (true, 14) := by kernel_rfl
theorem tk143 : tK Try.prog 143 = some (false, 1) := by kernel_rfl
theorem tk144 : tK Try.prog 144 = some (false, 1) := by kernel_rfl
theorem tk145 : tK Try.prog 145 = some (true, 2) := by kernel_rfl
theorem tk146 : tK Try.prog 146 = some (true, 2) := by kernel_rfl
theorem tk147 : tK Try.prog 147 = some (false, 1) := by kernel_rfl
theorem tk148 : tK Try.prog 148 = some (false, 1) := by kernel_rfl
theorem tk149 : tK Try.prog 149 = some (false, 1) := by kernel_rfl
theorem tk150 : tK Try.prog 150 = some (false, 1) := by kernel_rfl
theorem tk151 : tK Try.prog 151 = some (false, 1) := by kernel_rfl
theorem tk152 : tK Try.prog 152 = some (false, 1) := by kernel_rfl
theorem tk153 : tK Try.prog 153 = some (false, 1) := by kernel_rfl
theorem tk154 : tK Try.prog 154 = some (false, 1) := by kernel_rfl
theorem tk155 : tK Try.prog 155 = some (false, 1) := by kernel_rfl
theorem tk156 : tK Try.prog 156 = some (false, 1) := by kernel_rfl
theorem tk157 : tK Try.prog 157 = some (false, 1) := by kernel_rfl
theorem tk158 : tK Try.prog 158 = some (false, 1) := by kernel_rfl
theorem tk159 : tK Try.prog 159 = some (false, 1) := by kernel_rfl
theorem tk160 : tK Try.prog 160 = some (false, 1) := by kernel_rfl
theorem tk161 : tK Try.prog 161 = some (false, 1) := by kernel_rfl
theorem tk162 : tK Try.prog 162 = some (false, 1) := by kernel_rfl
theorem tk163 : tK Try.prog 163 = some (false, 1) := by kernel_rfl
theorem tk164 : tK Try.prog 164 = some (false, 1) := by kernel_rfl
theorem tk166 : tK Try.prog 166 = some (false, 1) := by kernel_rfl
theorem tk167 : tK Try.prog 167 = some (false, 1) := by kernel_rfl
theorem tk168 : tK Try.prog 168 = some (false, 1) := by kernel_rfl
theorem tk170 : tK Try.prog 170 = some (false, 1) := by kernel_rfl
theorem tk171 : tK Try.prog 171 = some (false, 1) := by kernel_rfl
theorem tk172 : tK Try.prog 172 = some (false, 1) := by kernel_rfl
theorem tk173 : tK Try.prog 173 = some (false, 1) := by kernel_rfl
theorem tk174 : tK Try.prog 174 = some (false, 1) := by kernel_rfl
theorem tk175 : tK Try.prog 175 = some (false, 1) := by kernel_rfl
theorem tk176 : tK Try.prog 176 = some (false, 1) := by kernel_rfl
theorem tk177 : tK Try.prog 177 = some (false, 1) := by kernel_rfl
theorem tk178 : tK Try.prog 178 = some (false, 1) := by kernel_rfl
theorem tk179 : tK Try.prog 179 = some (false, 1) := by kernel_rfl
theorem tk180 : tK Try.prog 180 = some (false, 1) := by kernel_rfl
theorem tk181 : tK Try.prog 181 = some (false, 1) := by kernel_rfl
theorem tk182 : tK Try.prog 182 = some (false, 1) := by kernel_rfl
theorem tk183 : tK Try.prog 183 = some (false, 1) := by kernel_rfl
theorem tk184 : tK Try.prog 184 = some (false, 1) := by kernel_rfl
theorem tk185 : tK Try.prog 185 = some (false, 1) := by kernel_rfl
theorem tk186 : tK Try.prog 186 = some (false, 1) := by kernel_rfl
theorem tk187 : tK Try.prog 187 = some (false, 1) := by kernel_rfl
theorem tk188 : tK Try.prog 188 = some (false, 1) := by kernel_rfl
theorem tk191 : tK Try.prog 191 = some (true, 0) := by kernel_rfl
theorem tk192 : tK Try.prog 192 = some (true, 0) := by kernel_rfl
theorem tk193 : tK Try.prog 193 = some (true, 0) := by kernel_rfl
theorem tk194 : tK Try.prog 194 = some (false, 1) := by kernel_rfl
theorem tk195 : tK Try.prog 195 = some (false, 1) := by kernel_rfl
theorem tk196 : tK Try.prog 196 = some (false, 1) := by kernel_rfl
theorem tk197 : tK Try.prog 197 = some (false, 1) := by kernel_rfl
theorem tk198 : tK Try.prog 198 = some (false, 1) := by kernel_rfl
theorem tk199 : tK Try.prog 199 = some (false, 1) := by kernel_rfl
theorem tk200 : tK Try.prog 200 = some (false, 1) := by kernel_rfl
theorem tk201 : tK Try.prog 201 = some (true, 11) := by kernel_rfl
theorem tk202 : tK Try.prog 202 = some (true, 11) := by kernel_rfl
theorem ts1 : (tK Try.prog 1).map (·.2) = some 1 := by rw [tk1]; rfl
theorem ts2 : (tK Try.prog 2).map (·.2) = some 1 := by rw [tk2]; rfl
theorem ts3 : (tK Try.prog 3).map (·.2) = some 1 := by rw [tk3]; rfl
theorem ts4 : (tK Try.prog 4).map (·.2) = some 1 := by rw [tk4]; rfl
theorem ts5 : (tK Try.prog 5).map (·.2) = some 1 := by rw [tk5]; rfl
theorem ts6 : (tK Try.prog 6).map (·.2) = some 1 := by rw [tk6]; rfl
theorem ts7 : (tK Try.prog 7).map (·.2) = some 4 := by rw [tk7]; rfl
theorem ts8 : (tK Try.prog 8).map (·.2) = some 4 := by rw [tk8]; rfl
theorem ts12 : (tK Try.prog 12).map (·.2) = some 1 := by rw [tk12]; rfl
theorem ts15 : (tK Try.prog 15).map (·.2) = some 1 := by rw [tk15]; rfl
theorem ts16 : (tK Try.prog 16).map (·.2) = some 1 := by rw [tk16]; rfl
theorem ts17 : (tK Try.prog 17).map (·.2) = some 1 := by rw [tk17]; rfl
theorem ts18 : (tK Try.prog 18).map (·.2) = some 1 := by rw [tk18]; rfl
theorem ts19 : (tK Try.prog 19).map (·.2) = some 1 := by rw [tk19]; rfl
theorem ts21 : (tK Try.prog 21).map (·.2) = some 1 := by rw [tk21]; rfl
theorem ts22 : (tK Try.prog 22).map (·.2) = some 1 := by rw [tk22]; rfl
theorem ts23 : (tK Try.prog 23).map (·.2) = some 1 := by rw [tk23]; rfl
theorem ts24 : (tK Try.prog 24).map (·.2) = some 1 := by rw [tk24]; rfl
theorem ts25 : (tK Try.prog 25).map (·.2) = some 1 := by rw [tk25]; rfl
theorem ts26 : (tK Try.prog 26).map (·.2) = some 1 := by rw [tk26]; rfl
theorem ts27 : (tK Try.prog 27).map (·.2) = some 7 := by rw [tk27]; rfl
theorem ts28 : (tK Try.prog 28).map (·.2) = some 7 := by rw [tk28]; rfl
theorem ts29 : (tK Try.prog 29).map (·.2) = some 2 := by rw [tk29]; rfl
theorem ts30 : (tK Try.prog 30).map (·.2) = some 2 := by rw [tk30]; rfl
theorem ts31 : (tK Try.prog 31).map (·.2) = some 1 := by rw [tk31]; rfl
theorem ts32 : (tK Try.prog 32).map (·.2) = some 1 := by rw [tk32]; rfl
theorem ts33 : (tK Try.prog 33).map (·.2) = some 2 := by rw [tk33]; rfl
theorem ts34 : (tK Try.prog 34).map (·.2) = some 2 := by rw [tk34]; rfl
theorem ts35 : (tK Try.prog 35).map (·.2) = some 1 := by rw [tk35]; rfl
theorem ts37 : (tK Try.prog 37).map (·.2) = some 1 := by rw [tk37]; rfl
theorem ts39 : (tK Try.prog 39).map (·.2) = some 1 := by rw [tk39]; rfl
theorem ts40 : (tK Try.prog 40).map (·.2) = some 1 := by rw [tk40]; rfl
theorem ts41 : (tK Try.prog 41).map (·.2) = some 1 := by rw [tk41]; rfl
theorem ts43 : (tK Try.prog 43).map (·.2) = some 1 := by rw [tk43]; rfl
theorem ts45 : (tK Try.prog 45).map (·.2) = some 1 := by rw [tk45]; rfl
theorem ts46 : (tK Try.prog 46).map (·.2) = some 1 := by rw [tk46]; rfl
theorem ts47 : (tK Try.prog 47).map (·.2) = some 1 := by rw [tk47]; rfl
theorem ts48 : (tK Try.prog 48).map (·.2) = some 1 := by rw [tk48]; rfl
theorem ts49 : (tK Try.prog 49).map (·.2) = some 1 := by rw [tk49]; rfl
theorem ts50 : (tK Try.prog 50).map (·.2) = some 1 := by rw [tk50]; rfl
theorem ts51 : (tK Try.prog 51).map (·.2) = some 1 := by rw [tk51]; rfl
theorem ts52 : (tK Try.prog 52).map (·.2) = some 3 := by rw [tk52]; rfl
theorem ts53 : (tK Try.prog 53).map (·.2) = some 3 := by rw [tk53]; rfl
theorem ts54 : (tK Try.prog 54).map (·.2) = some 4 := by rw [tk54]; rfl
theorem ts55 : (tK Try.prog 55).map (·.2) = some 4 := by rw [tk55]; rfl
theorem ts56 : (tK Try.prog 56).map (·.2) = some 1 := by rw [tk56]; rfl
theorem ts57 : (tK Try.prog 57).map (·.2) = some 1 := by rw [tk57]; rfl
theorem ts59 : (tK Try.prog 59).map (·.2) = some 1 := by rw [tk59]; rfl
theorem ts60 : (tK Try.prog 60).map (·.2) = some 3 := by rw [tk60]; rfl
theorem ts61 : (tK Try.prog 61).map (·.2) = some 3 := by rw [tk61]; rfl
theorem ts62 : (tK Try.prog 62).map (·.2) = some 1 := by rw [tk62]; rfl
theorem ts63 : (tK Try.prog 63).map (·.2) = some 2 := by rw [tk63]; rfl
theorem ts64 : (tK Try.prog 64).map (·.2) = some 2 := by rw [tk64]; rfl
theorem ts65 : (tK Try.prog 65).map (·.2) = some 1 := by rw [tk65]; rfl
theorem ts66 : (tK Try.prog 66).map (·.2) = some 1 := by rw [tk66]; rfl
theorem ts67 : (tK Try.prog 67).map (·.2) = some 1 := by rw [tk67]; rfl
theorem ts68 : (tK Try.prog 68).map (·.2) = some 3 := by rw [tk68]; rfl
theorem ts69 : (tK Try.prog 69).map (·.2) = some 3 := by rw [tk69]; rfl
theorem ts70 : (tK Try.prog 70).map (·.2) = some 1 := by rw [tk70]; rfl
theorem ts71 : (tK Try.prog 71).map (·.2) = some 1 := by rw [tk71]; rfl
theorem ts73 : (tK Try.prog 73).map (·.2) = some 1 := by rw [tk73]; rfl
theorem ts74 : (tK Try.prog 74).map (·.2) = some 1 := by rw [tk74]; rfl
theorem ts75 : (tK Try.prog 75).map (·.2) = some 1 := by rw [tk75]; rfl
theorem ts76 : (tK Try.prog 76).map (·.2) = some 1 := by rw [tk76]; rfl
theorem ts77 : (tK Try.prog 77).map (·.2) = some 1 := by rw [tk77]; rfl
theorem ts78 : (tK Try.prog 78).map (·.2) = some 1 := by rw [tk78]; rfl
theorem ts80 : (tK Try.prog 80).map (·.2) = some 1 := by rw [tk80]; rfl
theorem ts81 : (tK Try.prog 81).map (·.2) = some 1 := by rw [tk81]; rfl
theorem ts82 : (tK Try.prog 82).map (·.2) = some 2 := by rw [tk82]; rfl
theorem ts83 : (tK Try.prog 83).map (·.2) = some 2 := by rw [tk83]; rfl
theorem ts85 : (tK Try.prog 85).map (·.2) = some 1 := by rw [tk85]; rfl
theorem ts86 : (tK Try.prog 86).map (·.2) = some 1 := by rw [tk86]; rfl
theorem ts87 : (tK Try.prog 87).map (·.2) = some 1 := by rw [tk87]; rfl
theorem ts88 : (tK Try.prog 88).map (·.2) = some 1 := by rw [tk88]; rfl
theorem ts89 : (tK Try.prog 89).map (·.2) = some 1 := by rw [tk89]; rfl
theorem ts90 : (tK Try.prog 90).map (·.2) = some 1 := by rw [tk90]; rfl
theorem ts91 : (tK Try.prog 91).map (·.2) = some 1 := by rw [tk91]; rfl
theorem ts92 : (tK Try.prog 92).map (·.2) = some 1 := by rw [tk92]; rfl
theorem ts93 : (tK Try.prog 93).map (·.2) = some 1 := by rw [tk93]; rfl
theorem ts94 : (tK Try.prog 94).map (·.2) = some 1 := by rw [tk94]; rfl
theorem ts95 : (tK Try.prog 95).map (·.2) = some 1 := by rw [tk95]; rfl
theorem ts96 : (tK Try.prog 96).map (·.2) = some 1 := by rw [tk96]; rfl
theorem ts97 : (tK Try.prog 97).map (·.2) = some 1 := by rw [tk97]; rfl
theorem ts98 : (tK Try.prog 98).map (·.2) = some 1 := by rw [tk98]; rfl
theorem ts100 : (tK Try.prog 100).map (·.2) = some 1 := by rw [tk100]; rfl
theorem ts101 : (tK Try.prog 101).map (·.2) = some 1 := by rw [tk101]; rfl
theorem ts102 : (tK Try.prog 102).map (·.2) = some 1 := by rw [tk102]; rfl
theorem ts103 : (tK Try.prog 103).map (·.2) = some 1 := by rw [tk103]; rfl
theorem ts104 : (tK Try.prog 104).map (·.2) = some 4 := by rw [tk104]; rfl
theorem ts105 : (tK Try.prog 105).map (·.2) = some 1 := by rw [tk105]; rfl
theorem ts106 : (tK Try.prog 106).map (·.2) = some 1 := by rw [tk106]; rfl
theorem ts107 : (tK Try.prog 107).map (·.2) = some 1 := by rw [tk107]; rfl
theorem ts109 : (tK Try.prog 109).map (·.2) = some 1 := by rw [tk109]; rfl
theorem ts110 : (tK Try.prog 110).map (·.2) = some 1 := by rw [tk110]; rfl
theorem ts111 : (tK Try.prog 111).map (·.2) = some 1 := by rw [tk111]; rfl
theorem ts112 : (tK Try.prog 112).map (·.2) = some 1 := by rw [tk112]; rfl
theorem ts113 : (tK Try.prog 113).map (·.2) = some 1 := by rw [tk113]; rfl
theorem ts114 : (tK Try.prog 114).map (·.2) = some 1 := by rw [tk114]; rfl
theorem ts115 : (tK Try.prog 115).map (·.2) = some 1 := by rw [tk115]; rfl
theorem ts116 : (tK Try.prog 116).map (·.2) = some 1 := by rw [tk116]; rfl
theorem ts117 : (tK Try.prog 117).map (·.2) = some 1 := by rw [tk117]; rfl
theorem ts119 : (tK Try.prog 119).map (·.2) = some 1 := by rw [tk119]; rfl
theorem ts120 : (tK Try.prog 120).map (·.2) = some 1 := by rw [tk120]; rfl
theorem ts122 : (tK Try.prog 122).map (·.2) = some 1 := by rw [tk122]; rfl
theorem ts123 : (tK Try.prog 123).map (·.2) = some 1 := by rw [tk123]; rfl
theorem ts124 : (tK Try.prog 124).map (·.2) = some 1 := by rw [tk124]; rfl
theorem ts125 : (tK Try.prog 125).map (·.2) = some 9 := by rw [tk125]; rfl
theorem ts126 : (tK Try.prog 126).map (·.2) = some 9 := by rw [tk126]; rfl
theorem ts127 : (tK Try.prog 127).map (·.2) = some 1 := by rw [tk127]; rfl
theorem ts128 : (tK Try.prog 128).map (·.2) = some 1 := by rw [tk128]; rfl
theorem ts129 : (tK Try.prog 129).map (·.2) = some 1 := by rw [tk129]; rfl
theorem ts130 : (tK Try.prog 130).map (·.2) = some 1 := by rw [tk130]; rfl
theorem ts131 : (tK Try.prog 131).map (·.2) = some 1 := by rw [tk131]; rfl
theorem ts132 : (tK Try.prog 132).map (·.2) = some 1 := by rw [tk132]; rfl
theorem ts133 : (tK Try.prog 133).map (·.2) = some 1 := by rw [tk133]; rfl
theorem ts134 : (tK Try.prog 134).map (·.2) = some 1 := by rw [tk134]; rfl
theorem ts135 : (tK Try.prog 135).map (·.2) = some 1 := by rw [tk135]; rfl
theorem ts136 : (tK Try.prog 136).map (·.2) = some 1 := by rw [tk136]; rfl
theorem ts137 : (tK Try.prog 137).map (·.2) = some 1 := by rw [tk137]; rfl
theorem ts138 : (tK Try.prog 138).map (·.2) = some 1 := by rw [tk138]; rfl
theorem ts139 : (tK Try.prog 139).map (·.2) = some 1 := by rw [tk139]; rfl
theorem ts140 : (tK Try.prog 140).map (·.2) = some 1 := by rw [tk140]; rfl
theorem ts141 : (tK Try.prog 141).map (·.2) = some 14 := by rw [tk141]; rfl
theorem ts142 : (tK Try.prog 142).map (·.2) = some 14 := by rw [tk142]; rfl
theorem ts143 : (tK Try.prog 143).map (·.2) = some 1 := by rw [tk143]; rfl
theorem ts144 : (tK Try.prog 144).map (·.2) = some 1 := by rw [tk144]; rfl
theorem ts145 : (tK Try.prog 145).map (·.2) = some 2 := by rw [tk145]; rfl
theorem ts146 : (tK Try.prog 146).map (·.2) = some 2 := by rw [tk146]; rfl
theorem ts147 : (tK Try.prog 147).map (·.2) = some 1 := by rw [tk147]; rfl
theorem ts148 : (tK Try.prog 148).map (·.2) = some 1 := by rw [tk148]; rfl
theorem ts149 : (tK Try.prog 149).map (·.2) = some 1 := by rw [tk149]; rfl
theorem ts150 : (tK Try.prog 150).map (·.2) = some 1 := by rw [tk150]; rfl
theorem ts151 : (tK Try.prog 151).map (·.2) = some 1 := by rw [tk151]; rfl
theorem ts152 : (tK Try.prog 152).map (·.2) = some 1 := by rw [tk152]; rfl
theorem ts153 : (tK Try.prog 153).map (·.2) = some 1 := by rw [tk153]; rfl
theorem ts154 : (tK Try.prog 154).map (·.2) = some 1 := by rw [tk154]; rfl
theorem ts155 : (tK Try.prog 155).map (·.2) = some 1 := by rw [tk155]; rfl
theorem ts156 : (tK Try.prog 156).map (·.2) = some 1 := by rw [tk156]; rfl
theorem ts157 : (tK Try.prog 157).map (·.2) = some 1 := by rw [tk157]; rfl
theorem ts158 : (tK Try.prog 158).map (·.2) = some 1 := by rw [tk158]; rfl
theorem ts159 : (tK Try.prog 159).map (·.2) = some 1 := by rw [tk159]; rfl
theorem ts160 : (tK Try.prog 160).map (·.2) = some 1 := by rw [tk160]; rfl
theorem ts161 : (tK Try.prog 161).map (·.2) = some 1 := by rw [tk161]; rfl
theorem ts162 : (tK Try.prog 162).map (·.2) = some 1 := by rw [tk162]; rfl
theorem ts163 : (tK Try.prog 163).map (·.2) = some 1 := by rw [tk163]; rfl
theorem ts164 : (tK Try.prog 164).map (·.2) = some 1 := by rw [tk164]; rfl
theorem ts166 : (tK Try.prog 166).map (·.2) = some 1 := by rw [tk166]; rfl
theorem ts167 : (tK Try.prog 167).map (·.2) = some 1 := by rw [tk167]; rfl
theorem ts168 : (tK Try.prog 168).map (·.2) = some 1 := by rw [tk168]; rfl
theorem ts170 : (tK Try.prog 170).map (·.2) = some 1 := by rw [tk170]; rfl
theorem ts171 : (tK Try.prog 171).map (·.2) = some 1 := by rw [tk171]; rfl
theorem ts172 : (tK Try.prog 172).map (·.2) = some 1 := by rw [tk172]; rfl
theorem ts173 : (tK Try.prog 173).map (·.2) = some 1 := by rw [tk173]; rfl
theorem ts174 : (tK Try.prog 174).map (·.2) = some 1 := by rw [tk174]; rfl
theorem ts175 : (tK Try.prog 175).map (·.2) = some 1 := by rw [tk175]; rfl
theorem ts176 : (tK Try.prog 176).map (·.2) = some 1 := by rw [tk176]; rfl
theorem ts177 : (tK Try.prog 177).map (·.2) = some 1 := by rw [tk177]; rfl
theorem ts178 : (tK Try.prog 178).map (·.2) = some 1 := by rw [tk178]; rfl
theorem ts179 : (tK Try.prog 179).map (·.2) = some 1 := by rw [tk179]; rfl
theorem ts180 : (tK Try.prog 180).map (·.2) = some 1 := by rw [tk180]; rfl
theorem ts181 : (tK Try.prog 181).map (·.2) = some 1 := by rw [tk181]; rfl
theorem ts182 : (tK Try.prog 182).map (·.2) = some 1 := by rw [tk182]; rfl
theorem ts183 : (tK Try.prog 183).map (·.2) = some 1 := by rw [tk183]; rfl
theorem ts184 : (tK Try.prog 184).map (·.2) = some 1 := by rw [tk184]; rfl
theorem ts185 : (tK Try.prog 185).map (·.2) = some 1 := by rw [tk185]; rfl
theorem ts186 : (tK Try.prog 186).map (·.2) = some 1 := by rw [tk186]; rfl
theorem ts187 : (tK Try.prog 187).map (·.2) = some 1 := by rw [tk187]; rfl
theorem ts188 : (tK Try.prog 188).map (·.2) = some 1 := by rw [tk188]; rfl
theorem ts191 : (tK Try.prog 191).map (·.2) = some 0 := by rw [tk191]; rfl
theorem ts192 : (tK Try.prog 192).map (·.2) = some 0 := by rw [tk192]; rfl
theorem ts193 : (tK Try.prog 193).map (·.2) = some 0 := by rw [tk193]; rfl
theorem ts194 : (tK Try.prog 194).map (·.2) = some 1 := by rw [tk194]; rfl
theorem ts195 : (tK Try.prog 195).map (·.2) = some 1 := by rw [tk195]; rfl
theorem ts196 : (tK Try.prog 196).map (·.2) = some 1 := by rw [tk196]; rfl
theorem ts197 : (tK Try.prog 197).map (·.2) = some 1 := by rw [tk197]; rfl
theorem ts198 : (tK Try.prog 198).map (·.2) = some 1 := by rw [tk198]; rfl
theorem ts199 : (tK Try.prog 199).map (·.2) = some 1 := by rw [tk199]; rfl
theorem ts200 : (tK Try.prog 200).map (·.2) = some 1 := by rw [tk200]; rfl
theorem ts201 : (tK Try.prog 201).map (·.2) = some 11 := by rw [tk201]; rfl
theorem ts202 : (tK Try.prog 202).map (·.2) = some 11 := by rw [tk202]; rfl
theorem fo7_0 : fOff Try.prog 7 0 = some 0 := by kernel_rfl
theorem fo7_1 : fOff Try.prog 7 1 = some 1 := by kernel_rfl
theorem fo7_2 : fOff Try.prog 7 2 = some 2 := by kernel_rfl
theorem fo7_3 : fOff Try.prog 7 3 = some 3 := by kernel_rfl
theorem fo8_0 : fOff Try.prog 8 0 = some 0 := by kernel_rfl
theorem fo8_1 : fOff Try.prog 8 1 = some 1 := by kernel_rfl
theorem fo8_2 : fOff Try.prog 8 2 = some 2 := by kernel_rfl
theorem fo8_3 : fOff Try.prog 8 3 = some 3 := by kernel_rfl
theorem fo18_0 : fOff Try.prog 18 0 = some 0 := by kernel_rfl
theorem fo19_0 : fOff Try.prog 19 0 = some 0 := by kernel_rfl
theorem fo23_0 : fOff Try.prog 23 0 = some 0 := by kernel_rfl
theorem fo24_0 : fOff Try.prog 24 0 = some 0 := by kernel_rfl
theorem fo27_0 : fOff Try.prog 27 0 = some 0 := by kernel_rfl
theorem fo27_1 : fOff Try.prog 27 1 = some 1 := by kernel_rfl
theorem fo27_2 : fOff Try.prog 27 2 = some 2 := by kernel_rfl
theorem fo27_3 : fOff Try.prog 27 3 = some 3 := by kernel_rfl
theorem fo27_4 : fOff Try.prog 27 4 = some 4 := by kernel_rfl
theorem fo27_5 : fOff Try.prog 27 5 = some 5 := by kernel_rfl
theorem fo27_6 : fOff Try.prog 27 6 = some 6 := by kernel_rfl
theorem fo28_0 : fOff Try.prog 28 0 = some 0 := by kernel_rfl
theorem fo28_1 : fOff Try.prog 28 1 = some 1 := by kernel_rfl
theorem fo28_2 : fOff Try.prog 28 2 = some 2 := by kernel_rfl
theorem fo28_3 : fOff Try.prog 28 3 = some 3 := by kernel_rfl
theorem fo28_4 : fOff Try.prog 28 4 = some 4 := by kernel_rfl
theorem fo28_5 : fOff Try.prog 28 5 = some 5 := by kernel_rfl
theorem fo28_6 : fOff Try.prog 28 6 = some 6 := by kernel_rfl
theorem fo29_0 : fOff Try.prog 29 0 = some 0 := by kernel_rfl
theorem fo29_1 : fOff Try.prog 29 1 = some 1 := by kernel_rfl
theorem fo30_0 : fOff Try.prog 30 0 = some 0 := by kernel_rfl
theorem fo30_1 : fOff Try.prog 30 1 = some 1 := by kernel_rfl
theorem fo33_0 : fOff Try.prog 33 0 = some 0 := by kernel_rfl
theorem fo33_1 : fOff Try.prog 33 1 = some 1 := by kernel_rfl
theorem fo34_0 : fOff Try.prog 34 0 = some 0 := by kernel_rfl
theorem fo34_1 : fOff Try.prog 34 1 = some 1 := by kernel_rfl
theorem fo52_0 : fOff Try.prog 52 0 = some 0 := by kernel_rfl
theorem fo52_1 : fOff Try.prog 52 1 = some 1 := by kernel_rfl
theorem fo53_0 : fOff Try.prog 53 0 = some 0 := by kernel_rfl
theorem fo53_1 : fOff Try.prog 53 1 = some 1 := by kernel_rfl
theorem fo54_0 : fOff Try.prog 54 0 = some 0 := by kernel_rfl
theorem fo54_1 : fOff Try.prog 54 1 = some 3 := by kernel_rfl
theorem fo55_0 : fOff Try.prog 55 0 = some 0 := by kernel_rfl
theorem fo55_1 : fOff Try.prog 55 1 = some 3 := by kernel_rfl
theorem fo60_0 : fOff Try.prog 60 0 = some 0 := by kernel_rfl
theorem fo60_1 : fOff Try.prog 60 1 = some 1 := by kernel_rfl
theorem fo61_0 : fOff Try.prog 61 0 = some 0 := by kernel_rfl
theorem fo61_1 : fOff Try.prog 61 1 = some 1 := by kernel_rfl
theorem fo63_0 : fOff Try.prog 63 0 = some 0 := by kernel_rfl
theorem fo63_1 : fOff Try.prog 63 1 = some 1 := by kernel_rfl
theorem fo64_0 : fOff Try.prog 64 0 = some 0 := by kernel_rfl
theorem fo64_1 : fOff Try.prog 64 1 = some 1 := by kernel_rfl
theorem fo68_0 : fOff Try.prog 68 0 = some 0 := by kernel_rfl
theorem fo68_1 : fOff Try.prog 68 1 = some 1 := by kernel_rfl
theorem fo68_2 : fOff Try.prog 68 2 = some 2 := by kernel_rfl
theorem fo69_0 : fOff Try.prog 69 0 = some 0 := by kernel_rfl
theorem fo69_1 : fOff Try.prog 69 1 = some 1 := by kernel_rfl
theorem fo69_2 : fOff Try.prog 69 2 = some 2 := by kernel_rfl
theorem fo82_0 : fOff Try.prog 82 0 = some 0 := by kernel_rfl
theorem fo82_1 : fOff Try.prog 82 1 = some 1 := by kernel_rfl
theorem fo83_0 : fOff Try.prog 83 0 = some 0 := by kernel_rfl
theorem fo83_1 : fOff Try.prog 83 1 = some 1 := by kernel_rfl
theorem fo103_0 : fOff Try.prog 103 0 = some 0 := by kernel_rfl
theorem fo116_0 : fOff Try.prog 116 0 = some 0 := by kernel_rfl
theorem fo117_0 : fOff Try.prog 117 0 = some 0 := by kernel_rfl
theorem fo125_0 : fOff Try.prog 125 0 = some 0 := by kernel_rfl
theorem fo125_1 : fOff Try.prog 125 1 = some 1 := by kernel_rfl
theorem fo125_2 : fOff Try.prog 125 2 = some 3 := by kernel_rfl
theorem fo125_3 : fOff Try.prog 125 3 = some 5 := by kernel_rfl
theorem fo125_4 : fOff Try.prog 125 4 = some 7 := by kernel_rfl
theorem fo125_5 : fOff Try.prog 125 5 = some 8 := by kernel_rfl
theorem fo126_0 : fOff Try.prog 126 0 = some 0 := by kernel_rfl
theorem fo126_1 : fOff Try.prog 126 1 = some 1 := by kernel_rfl
theorem fo126_2 : fOff Try.prog 126 2 = some 3 := by kernel_rfl
theorem fo126_3 : fOff Try.prog 126 3 = some 5 := by kernel_rfl
theorem fo126_4 : fOff Try.prog 126 4 = some 7 := by kernel_rfl
theorem fo126_5 : fOff Try.prog 126 5 = some 8 := by kernel_rfl
theorem fo141_0 : fOff Try.prog 141 0 = some 0 := by kernel_rfl
theorem fo141_1 : fOff Try.prog 141 1 = some 7 := by kernel_rfl
theorem fo141_2 : fOff Try.prog 141 2 = some 10 := by kernel_rfl
theorem fo141_3 : fOff Try.prog 141 3 = some 11 := by kernel_rfl
theorem fo141_4 : fOff Try.prog 141 4 = some 12 := by kernel_rfl
theorem fo141_5 : fOff Try.prog 141 5 = some 13 := by kernel_rfl
theorem fo142_0 : fOff Try.prog 142 0 = some 0 := by kernel_rfl
theorem fo142_1 : fOff Try.prog 142 1 = some 7 := by kernel_rfl
theorem fo142_2 : fOff Try.prog 142 2 = some 10 := by kernel_rfl
theorem fo142_3 : fOff Try.prog 142 3 = some 11 := by kernel_rfl
theorem fo142_4 : fOff Try.prog 142 4 = some 12 := by kernel_rfl
theorem fo142_5 : fOff Try.prog 142 5 = some 13 := by kernel_rfl
theorem fo145_0 : fOff Try.prog 145 0 = some 0 := by kernel_rfl
theorem fo145_1 : fOff Try.prog 145 1 = some 1 := by kernel_rfl
theorem fo146_0 : fOff Try.prog 146 0 = some 0 := by kernel_rfl
theorem fo146_1 : fOff Try.prog 146 1 = some 1 := by kernel_rfl
theorem fo201_0 : fOff Try.prog 201 0 = some 0 := by kernel_rfl
theorem fo201_1 : fOff Try.prog 201 1 = some 1 := by kernel_rfl
theorem fo201_2 : fOff Try.prog 201 2 = some 2 := by kernel_rfl
theorem fo201_3 : fOff Try.prog 201 3 = some 3 := by kernel_rfl
theorem fo201_4 : fOff Try.prog 201 4 = some 4 := by kernel_rfl
theorem fo201_5 : fOff Try.prog 201 5 = some 5 := by kernel_rfl
theorem fo201_6 : fOff Try.prog 201 6 = some 6 := by kernel_rfl
theorem fo201_7 : fOff Try.prog 201 7 = some 7 := by kernel_rfl
theorem fo201_8 : fOff Try.prog 201 8 = some 8 := by kernel_rfl
theorem fo201_9 : fOff Try.prog 201 9 = some 9 := by kernel_rfl
theorem fo201_10 : fOff Try.prog 201 10 = some 10 := by kernel_rfl
theorem fo202_0 : fOff Try.prog 202 0 = some 0 := by kernel_rfl
theorem fo202_1 : fOff Try.prog 202 1 = some 1 := by kernel_rfl
theorem fo202_2 : fOff Try.prog 202 2 = some 2 := by kernel_rfl
theorem fo202_3 : fOff Try.prog 202 3 = some 3 := by kernel_rfl
theorem fo202_4 : fOff Try.prog 202 4 = some 4 := by kernel_rfl
theorem fo202_5 : fOff Try.prog 202 5 = some 5 := by kernel_rfl
theorem fo202_6 : fOff Try.prog 202 6 = some 6 := by kernel_rfl
theorem fo202_7 : fOff Try.prog 202 7 = some 7 := by kernel_rfl
theorem fo202_8 : fOff Try.prog 202 8 = some 8 := by kernel_rfl
theorem fo202_9 : fOff Try.prog 202 9 = some 9 := by kernel_rfl
theorem fo202_10 : fOff Try.prog 202 10 = some 10 := by kernel_rfl
theorem go3 : isGo Try.prog 3 = true := by kernel_rfl
theorem go4 : isGo Try.prog 4 = true := by kernel_rfl
theorem go5 : isGo Try.prog 5 = true := by kernel_rfl
theorem go6 : isGo Try.prog 6 = true := by kernel_rfl
theorem go7 : isGo Try.prog 7 = true := by kernel_rfl
theorem go8 : isGo Try.prog 8 = true := by kernel_rfl
theorem go9 : isGo Try.prog 9 = true := by kernel_rfl
theorem go10 : isGo Try.prog 10 = true := by kernel_rfl
theorem go11 : isGo Try.prog 11 = true := by kernel_rfl
theorem go12 : isGo Try.prog 12 = true := by kernel_rfl
theorem go13 : isGo Try.prog 13 = true := by kernel_rfl
theorem go14 : isGo Try.prog 14 = true := by kernel_rfl
theorem go15 : isGo Try.prog 15 = true := by kernel_rfl
theorem go16 : isGo Try.prog 16 = true := by kernel_rfl
theorem go17 : isGo Try.prog 17 = true := by kernel_rfl
theorem go18 : isGo Try.prog 18 = true := by kernel_rfl
theorem go19 : isGo Try.prog 19 = true := by kernel_rfl
theorem go20 : isGo Try.prog 20 = true := by kernel_rfl
theorem go21 : isGo Try.prog 21 = true := by kernel_rfl
theorem go22 : isGo Try.prog 22 = true := by kernel_rfl
theorem go23 : isGo Try.prog 23 = true := by kernel_rfl
theorem go24 : isGo Try.prog 24 = true := by kernel_rfl
theorem go25 : isGo Try.prog 25 = true := by kernel_rfl
theorem go26 : isGo Try.prog 26 = true := by kernel_rfl
theorem go27 : isGo Try.prog 27 = true := by kernel_rfl
theorem go28 : isGo Try.prog 28 = true := by kernel_rfl
theorem go29 : isGo Try.prog 29 = true := by kernel_rfl
theorem go30 : isGo Try.prog 30 = true := by kernel_rfl
theorem go31 : isGo Try.prog 31 = true := by kernel_rfl
theorem go32 : isGo Try.prog 32 = true := by kernel_rfl
theorem go33 : isGo Try.prog 33 = true := by kernel_rfl
theorem go34 : isGo Try.prog 34 = true := by kernel_rfl
theorem go35 : isGo Try.prog 35 = true := by kernel_rfl
theorem go36 : isGo Try.prog 36 = true := by kernel_rfl
theorem go37 : isGo Try.prog 37 = true := by kernel_rfl
theorem go38 : isGo Try.prog 38 = true := by kernel_rfl
theorem go39 : isGo Try.prog 39 = true := by kernel_rfl
theorem go40 : isGo Try.prog 40 = true := by kernel_rfl
theorem go41 : isGo Try.prog 41 = true := by kernel_rfl
theorem go42 : isGo Try.prog 42 = true := by kernel_rfl
theorem go43 : isGo Try.prog 43 = true := by kernel_rfl
theorem go44 : isGo Try.prog 44 = true := by kernel_rfl
theorem go45 : isGo Try.prog 45 = true := by kernel_rfl
theorem go46 : isGo Try.prog 46 = true := by kernel_rfl
theorem go47 : isGo Try.prog 47 = true := by kernel_rfl
theorem go48 : isGo Try.prog 48 = true := by kernel_rfl
theorem go49 : isGo Try.prog 49 = true := by kernel_rfl
theorem go50 : isGo Try.prog 50 = true := by kernel_rfl
theorem go51 : isGo Try.prog 51 = true := by kernel_rfl
theorem go52 : isGo Try.prog 52 = true := by kernel_rfl
theorem go53 : isGo Try.prog 53 = true := by kernel_rfl
theorem go54 : isGo Try.prog 54 = true := by kernel_rfl
theorem go55 : isGo Try.prog 55 = true := by kernel_rfl
theorem go56 : isGo Try.prog 56 = true := by kernel_rfl
theorem go57 : isGo Try.prog 57 = true := by kernel_rfl
theorem go58 : isGo Try.prog 58 = true := by kernel_rfl
theorem go59 : isGo Try.prog 59 = true := by kernel_rfl
theorem go60 : isGo Try.prog 60 = true := by kernel_rfl
theorem go61 : isGo Try.prog 61 = true := by kernel_rfl
theorem go62 : isGo Try.prog 62 = true := by kernel_rfl
theorem go63 : isGo Try.prog 63 = true := by kernel_rfl
theorem go64 : isGo Try.prog 64 = true := by kernel_rfl
theorem go65 : isGo Try.prog 65 = true := by kernel_rfl
theorem go66 : isGo Try.prog 66 = true := by kernel_rfl
theorem go67 : isGo Try.prog 67 = true := by kernel_rfl
theorem go68 : isGo Try.prog 68 = true := by kernel_rfl
theorem go69 : isGo Try.prog 69 = true := by kernel_rfl
theorem go70 : isGo Try.prog 70 = true := by kernel_rfl
theorem go71 : isGo Try.prog 71 = true := by kernel_rfl
theorem go72 : isGo Try.prog 72 = true := by kernel_rfl
theorem go73 : isGo Try.prog 73 = true := by kernel_rfl
theorem go74 : isGo Try.prog 74 = true := by kernel_rfl
theorem go75 : isGo Try.prog 75 = true := by kernel_rfl
theorem go76 : isGo Try.prog 76 = true := by kernel_rfl
theorem go77 : isGo Try.prog 77 = true := by kernel_rfl
theorem go78 : isGo Try.prog 78 = true := by kernel_rfl
theorem go79 : isGo Try.prog 79 = true := by kernel_rfl
theorem go80 : isGo Try.prog 80 = true := by kernel_rfl
theorem go81 : isGo Try.prog 81 = true := by kernel_rfl
theorem go82 : isGo Try.prog 82 = true := by kernel_rfl
theorem go83 : isGo Try.prog 83 = true := by kernel_rfl
theorem go84 : isGo Try.prog 84 = true := by kernel_rfl
theorem go85 : isGo Try.prog 85 = true := by kernel_rfl
theorem go86 : isGo Try.prog 86 = true := by kernel_rfl
theorem go87 : isGo Try.prog 87 = true := by kernel_rfl
theorem go88 : isGo Try.prog 88 = true := by kernel_rfl
theorem go89 : isGo Try.prog 89 = true := by kernel_rfl
theorem go90 : isGo Try.prog 90 = true := by kernel_rfl
theorem go91 : isGo Try.prog 91 = true := by kernel_rfl
theorem go92 : isGo Try.prog 92 = true := by kernel_rfl
theorem go93 : isGo Try.prog 93 = true := by kernel_rfl
theorem go94 : isGo Try.prog 94 = true := by kernel_rfl
theorem go95 : isGo Try.prog 95 = true := by kernel_rfl
theorem go96 : isGo Try.prog 96 = true := by kernel_rfl
theorem go97 : isGo Try.prog 97 = true := by kernel_rfl
theorem go98 : isGo Try.prog 98 = true := by kernel_rfl
theorem go99 : isGo Try.prog 99 = true := by kernel_rfl
theorem go100 : isGo Try.prog 100 = true := by kernel_rfl
theorem go101 : isGo Try.prog 101 = true := by kernel_rfl
theorem go102 : isGo Try.prog 102 = true := by kernel_rfl
theorem go103 : isGo Try.prog 103 = true := by kernel_rfl
theorem go104 : isGo Try.prog 104 = true := by kernel_rfl
theorem go105 : isGo Try.prog 105 = true := by kernel_rfl
theorem go106 : isGo Try.prog 106 = true := by kernel_rfl
theorem go107 : isGo Try.prog 107 = true := by kernel_rfl
theorem go108 : isGo Try.prog 108 = true := by kernel_rfl
theorem go109 : isGo Try.prog 109 = true := by kernel_rfl
theorem go110 : isGo Try.prog 110 = true := by kernel_rfl
theorem go111 : isGo Try.prog 111 = true := by kernel_rfl
theorem go112 : isGo Try.prog 112 = true := by kernel_rfl
theorem go113 : isGo Try.prog 113 = true := by kernel_rfl
theorem go114 : isGo Try.prog 114 = true := by kernel_rfl
theorem go115 : isGo Try.prog 115 = true := by kernel_rfl
theorem go116 : isGo Try.prog 116 = true := by kernel_rfl
theorem go117 : isGo Try.prog 117 = true := by kernel_rfl
theorem go118 : isGo Try.prog 118 = true := by kernel_rfl
theorem go119 : isGo Try.prog 119 = true := by kernel_rfl
theorem go120 : isGo Try.prog 120 = true := by kernel_rfl
theorem go121 : isGo Try.prog 121 = true := by kernel_rfl
theorem go122 : isGo Try.prog 122 = true := by kernel_rfl
theorem go123 : isGo Try.prog 123 = true := by kernel_rfl
theorem go124 : isGo Try.prog 124 = true := by kernel_rfl
theorem go125 : isGo Try.prog 125 = true := by kernel_rfl
theorem go126 : isGo Try.prog 126 = true := by kernel_rfl
theorem go127 : isGo Try.prog 127 = true := by kernel_rfl
theorem go128 : isGo Try.prog 128 = true := by kernel_rfl
theorem go129 : isGo Try.prog 129 = true := by kernel_rfl
theorem go130 : isGo Try.prog 130 = true := by kernel_rfl
theorem go131 : isGo Try.prog 131 = true := by kernel_rfl
theorem go132 : isGo Try.prog 132 = true := by kernel_rfl
theorem one_SignalV_cells (l : List SignalV) : ∀ v ∈ (l.map SignalV.cells).flatten, v.oneCell' = true := one_flat (fun _ => rfl) l
theorem one_SpanV_cells (l : List SpanV) : ∀ v ∈ (l.map SpanV.cells).flatten, v.oneCell' = true := one_flat (fun _ => rfl) l
theorem one_SpotV_cells (l : List SpotV) : ∀ v ∈ (l.map SpotV.cells).flatten, v.oneCell' = true := one_flat (fun _ => rfl) l
theorem one_BeamV_cells (l : List BeamV) : ∀ v ∈ (l.map BeamV.cells).flatten, v.oneCell' = true := one_flat (fun _ => rfl) l
theorem one_SyncV_cells (l : List SyncV) : ∀ v ∈ (l.map SyncV.cells).flatten, v.oneCell' = true := one_flat (fun _ => rfl) l
theorem one_StretchV_cells (l : List StretchV) : ∀ v ∈ (l.map StretchV.cells).flatten, v.oneCell' = true := one_flat (fun _ => rfl) l
theorem ta22 : tA Try.prog 22 = some (126, 9, 72, (Value.agg [(Value.int .i64 0), (Value.int .i64 0), (Value.int .i64 0), (Value.int .i64 0), (Value.int .i64 0), (Value.int .i64 0), (Value.int .i64 0), (Value.int .u8 0), (Value.int .i64 0)].toArray)) := by kernel_rfl
theorem ta25 : tA Try.prog 25 = some (64, 2, 32, (Value.agg [(Value.int .i64 0), (Value.slice none 0 0)].toArray)) := by kernel_rfl
theorem ta26 : tA Try.prog 26 = some (55, 4, 32, (Value.agg [(Value.int .i64 0), (Value.int .i64 0), (Value.int .i64 0), (Value.int .i64 0)].toArray)) := by kernel_rfl
theorem ta57 : tA Try.prog 57 = some (3, 1, 8, (Value.int .i64 0)) := by kernel_rfl
theorem ta62 : tA Try.prog 62 = some (61, 3, 24, (Value.agg [(Value.int .i64 0), (Value.int .i64 0), (Value.int .i64 0)].toArray)) := by kernel_rfl
theorem ta67 : tA Try.prog 67 = some (30, 2, 16, (Value.agg [(Value.int .i64 0), (Value.int .i64 0)].toArray)) := by kernel_rfl
theorem ta74 : tA Try.prog 74 = some (28, 7, 104, (Value.agg [(Value.slice none 0 0), (Value.int .i64 0), (Value.slice none 0 0), (Value.slice none 0 0), (Value.int .i64 0), (Value.int .i64 0), (Value.int .i64 0)].toArray)) := by kernel_rfl
theorem ta81 : tA Try.prog 81 = some (34, 2, 16, (Value.agg [(Value.int .i64 0), (Value.int .i64 0)].toArray)) := by kernel_rfl
theorem ta138 : tA Try.prog 138 = some (111, 1, 8, Value.nilFunc) := by kernel_rfl
theorem ta139 : tA Try.prog 139 = some (143, 1, 8, (Value.map none)) := by kernel_rfl
theorem ta140 : tA Try.prog 140 = some (144, 1, 8, (Value.map none)) := by kernel_rfl
theorem ta151 : tA Try.prog 151 = some (53, 3, 24, (Value.agg [(Value.int .i64 0), (Value.int .i64 0), (Value.int .i64 0)].toArray)) := by kernel_rfl
theorem tb7 : tB Try.prog 7 = some ([(Value.int .i64 0), (Value.int .i64 0), (Value.bool false), (Value.int .u8 0)], [(0, 1), (1, 1), (2, 1), (3, 1)]) := by kernel_rfl
theorem tb8 : tB Try.prog 8 = some ([(Value.int .i64 0), (Value.int .i64 0), (Value.bool false), (Value.int .u8 0)], [(0, 1), (1, 1), (2, 1), (3, 1)]) := by kernel_rfl
theorem tb18 : tB Try.prog 18 = some ([(Value.pointer none)], [(0, 1)]) := by kernel_rfl
theorem tb19 : tB Try.prog 19 = some ([(Value.pointer none)], [(0, 1)]) := by kernel_rfl
theorem tb23 : tB Try.prog 23 = some ([(Value.slice none 0 0)], [(0, 1)]) := by kernel_rfl
theorem tb24 : tB Try.prog 24 = some ([(Value.slice none 0 0)], [(0, 1)]) := by kernel_rfl
theorem tb27 : tB Try.prog 27 = some ([(Value.slice none 0 0), (Value.int .i64 0), (Value.slice none 0 0), (Value.slice none 0 0), (Value.int .i64 0), (Value.int .i64 0), (Value.int .i64 0)], [(0, 1), (1, 1), (2, 1), (3, 1), (4, 1), (5, 1), (6, 1)]) := by kernel_rfl
theorem tb28 : tB Try.prog 28 = some ([(Value.slice none 0 0), (Value.int .i64 0), (Value.slice none 0 0), (Value.slice none 0 0), (Value.int .i64 0), (Value.int .i64 0), (Value.int .i64 0)], [(0, 1), (1, 1), (2, 1), (3, 1), (4, 1), (5, 1), (6, 1)]) := by kernel_rfl
theorem tb29 : tB Try.prog 29 = some ([(Value.int .i64 0), (Value.int .i64 0)], [(0, 1), (1, 1)]) := by kernel_rfl
theorem tb30 : tB Try.prog 30 = some ([(Value.int .i64 0), (Value.int .i64 0)], [(0, 1), (1, 1)]) := by kernel_rfl
theorem tb33 : tB Try.prog 33 = some ([(Value.int .i64 0), (Value.int .i64 0)], [(0, 1), (1, 1)]) := by kernel_rfl
theorem tb34 : tB Try.prog 34 = some ([(Value.int .i64 0), (Value.int .i64 0)], [(0, 1), (1, 1)]) := by kernel_rfl
theorem tb52 : tB Try.prog 52 = some ([(Value.int .i64 0), (Value.int .i64 0), (Value.int .i64 0)], [(0, 1), (1, 2)]) := by kernel_rfl
theorem tb53 : tB Try.prog 53 = some ([(Value.int .i64 0), (Value.int .i64 0), (Value.int .i64 0)], [(0, 1), (1, 2)]) := by kernel_rfl
theorem tb54 : tB Try.prog 54 = some ([(Value.int .i64 0), (Value.int .i64 0), (Value.int .i64 0), (Value.int .i64 0)], [(0, 3), (3, 1)]) := by kernel_rfl
theorem tb55 : tB Try.prog 55 = some ([(Value.int .i64 0), (Value.int .i64 0), (Value.int .i64 0), (Value.int .i64 0)], [(0, 3), (3, 1)]) := by kernel_rfl
theorem tb60 : tB Try.prog 60 = some ([(Value.int .i64 0), (Value.int .i64 0), (Value.int .i64 0)], [(0, 1), (1, 2)]) := by kernel_rfl
theorem tb61 : tB Try.prog 61 = some ([(Value.int .i64 0), (Value.int .i64 0), (Value.int .i64 0)], [(0, 1), (1, 2)]) := by kernel_rfl
theorem tb63 : tB Try.prog 63 = some ([(Value.int .i64 0), (Value.slice none 0 0)], [(0, 1), (1, 1)]) := by kernel_rfl
theorem tb64 : tB Try.prog 64 = some ([(Value.int .i64 0), (Value.slice none 0 0)], [(0, 1), (1, 1)]) := by kernel_rfl
theorem tb68 : tB Try.prog 68 = some ([(Value.int .i64 0), (Value.int .i64 0), (Value.slice none 0 0)], [(0, 1), (1, 1), (2, 1)]) := by kernel_rfl
theorem tb69 : tB Try.prog 69 = some ([(Value.int .i64 0), (Value.int .i64 0), (Value.slice none 0 0)], [(0, 1), (1, 1), (2, 1)]) := by kernel_rfl
theorem tb82 : tB Try.prog 82 = some ([(Value.slice none 0 0), (Value.slice none 0 0)], [(0, 1), (1, 1)]) := by kernel_rfl
theorem tb83 : tB Try.prog 83 = some ([(Value.slice none 0 0), (Value.slice none 0 0)], [(0, 1), (1, 1)]) := by kernel_rfl
theorem tb103 : tB Try.prog 103 = some ([Value.nilFunc], [(0, 1)]) := by kernel_rfl
theorem tb104 : tB Try.prog 104 = some ([Value.nilFunc, Value.nilFunc, Value.nilFunc, Value.nilFunc], [(0, 1), (1, 1), (2, 1), (3, 1)]) := by kernel_rfl
theorem tb116 : tB Try.prog 116 = some ([(Value.slice none 0 0)], [(0, 1)]) := by kernel_rfl
theorem tb117 : tB Try.prog 117 = some ([(Value.slice none 0 0)], [(0, 1)]) := by kernel_rfl
theorem tb125 : tB Try.prog 125 = some ([(Value.int .i64 0), (Value.int .i64 0), (Value.int .i64 0), (Value.int .i64 0), (Value.int .i64 0), (Value.int .i64 0), (Value.int .i64 0), (Value.int .u8 0), (Value.int .i64 0)], [(0, 1), (1, 2), (3, 2), (5, 2), (7, 1), (8, 1)]) := by kernel_rfl
theorem tb126 : tB Try.prog 126 = some ([(Value.int .i64 0), (Value.int .i64 0), (Value.int .i64 0), (Value.int .i64 0), (Value.int .i64 0), (Value.int .i64 0), (Value.int .i64 0), (Value.int .u8 0), (Value.int .i64 0)], [(0, 1), (1, 2), (3, 2), (5, 2), (7, 1), (8, 1)]) := by kernel_rfl
theorem tb141 : tB Try.prog 141 = some ([(Value.slice none 0 0), (Value.int .i64 0), (Value.slice none 0 0), (Value.slice none 0 0), (Value.int .i64 0), (Value.int .i64 0), (Value.int .i64 0), (Value.int .i64 0), (Value.int .i64 0), (Value.slice none 0 0), (Value.slice none 0 0), (Value.slice none 0 0), (Value.slice none 0 0), (Value.slice none 0 0)], [(0, 7), (7, 3), (10, 1), (11, 1), (12, 1), (13, 1)]) := by kernel_rfl
theorem tb142 : tB Try.prog 142 = some ([(Value.slice none 0 0), (Value.int .i64 0), (Value.slice none 0 0), (Value.slice none 0 0), (Value.int .i64 0), (Value.int .i64 0), (Value.int .i64 0), (Value.int .i64 0), (Value.int .i64 0), (Value.slice none 0 0), (Value.slice none 0 0), (Value.slice none 0 0), (Value.slice none 0 0), (Value.slice none 0 0)], [(0, 7), (7, 3), (10, 1), (11, 1), (12, 1), (13, 1)]) := by kernel_rfl
theorem tb145 : tB Try.prog 145 = some ([(Value.int .i64 0), (Value.int .i64 0)], [(0, 1), (1, 1)]) := by kernel_rfl
theorem tb146 : tB Try.prog 146 = some ([(Value.int .i64 0), (Value.int .i64 0)], [(0, 1), (1, 1)]) := by kernel_rfl
theorem tb191 : tB Try.prog 191 = some ([], []) := by kernel_rfl
theorem tb192 : tB Try.prog 192 = some ([], [(0, 0)]) := by kernel_rfl
theorem tb193 : tB Try.prog 193 = some ([], [(0, 0)]) := by kernel_rfl
theorem tb201 : tB Try.prog 201 = some ([(Value.int .u64 0), (Value.int .u64 0), (Value.int .u32 0), (Value.int .u8 0), (Value.int .u8 0), (Value.int .u8 0), (Value.int .u8 0), Value.nilFunc, (Value.pointer none), (Value.int .i32 0), (Value.int .i32 0)], [(0, 1), (1, 1), (2, 1), (3, 1), (4, 1), (5, 1), (6, 1), (7, 1), (8, 1), (9, 1), (10, 1)]) := by kernel_rfl
theorem tb202 : tB Try.prog 202 = some ([(Value.int .u64 0), (Value.int .u64 0), (Value.int .u32 0), (Value.int .u8 0), (Value.int .u8 0), (Value.int .u8 0), (Value.int .u8 0), Value.nilFunc, (Value.pointer none), (Value.int .i32 0), (Value.int .i32 0)], [(0, 1), (1, 1), (2, 1), (3, 1), (4, 1), (5, 1), (6, 1), (7, 1), (8, 1), (9, 1), (10, 1)]) := by kernel_rfl
theorem te22 : tE Try.prog 22 = some (126, 9) := by kernel_rfl
theorem te25 : tE Try.prog 25 = some (64, 2) := by kernel_rfl
theorem te26 : tE Try.prog 26 = some (55, 4) := by kernel_rfl
theorem te57 : tE Try.prog 57 = some (3, 1) := by kernel_rfl
theorem te62 : tE Try.prog 62 = some (61, 3) := by kernel_rfl
theorem te67 : tE Try.prog 67 = some (30, 2) := by kernel_rfl
theorem te74 : tE Try.prog 74 = some (28, 7) := by kernel_rfl
theorem te81 : tE Try.prog 81 = some (34, 2) := by kernel_rfl
theorem te138 : tE Try.prog 138 = some (111, 1) := by kernel_rfl
theorem te139 : tE Try.prog 139 = some (143, 1) := by kernel_rfl
theorem te140 : tE Try.prog 140 = some (144, 1) := by kernel_rfl
theorem te151 : tE Try.prog 151 = some (53, 3) := by kernel_rfl
theorem tf7_0 : (match Try.prog.underlying 7 with | some (.struct fs) => (fs[0]?).map (fun fl => tK Try.prog fl.type) | _ => none) = some (some (false, 1)) := by kernel_rfl
theorem tf7_1 : (match Try.prog.underlying 7 with | some (.struct fs) => (fs[1]?).map (fun fl => tK Try.prog fl.type) | _ => none) = some (some (false, 1)) := by kernel_rfl
theorem tf7_2 : (match Try.prog.underlying 7 with | some (.struct fs) => (fs[2]?).map (fun fl => tK Try.prog fl.type) | _ => none) = some (some (false, 1)) := by kernel_rfl
theorem tf7_3 : (match Try.prog.underlying 7 with | some (.struct fs) => (fs[3]?).map (fun fl => tK Try.prog fl.type) | _ => none) = some (some (false, 1)) := by kernel_rfl
theorem tf8_0 : (match Try.prog.underlying 8 with | some (.struct fs) => (fs[0]?).map (fun fl => tK Try.prog fl.type) | _ => none) = some (some (false, 1)) := by kernel_rfl
theorem tf8_1 : (match Try.prog.underlying 8 with | some (.struct fs) => (fs[1]?).map (fun fl => tK Try.prog fl.type) | _ => none) = some (some (false, 1)) := by kernel_rfl
theorem tf8_2 : (match Try.prog.underlying 8 with | some (.struct fs) => (fs[2]?).map (fun fl => tK Try.prog fl.type) | _ => none) = some (some (false, 1)) := by kernel_rfl
theorem tf8_3 : (match Try.prog.underlying 8 with | some (.struct fs) => (fs[3]?).map (fun fl => tK Try.prog fl.type) | _ => none) = some (some (false, 1)) := by kernel_rfl
theorem tf18_0 : (match Try.prog.underlying 18 with | some (.struct fs) => (fs[0]?).map (fun fl => tK Try.prog fl.type) | _ => none) = some (some (false, 1)) := by kernel_rfl
theorem tf19_0 : (match Try.prog.underlying 19 with | some (.struct fs) => (fs[0]?).map (fun fl => tK Try.prog fl.type) | _ => none) = some (some (false, 1)) := by kernel_rfl
theorem tf23_0 : (match Try.prog.underlying 23 with | some (.struct fs) => (fs[0]?).map (fun fl => tK Try.prog fl.type) | _ => none) = some (some (false, 1)) := by kernel_rfl
theorem tf24_0 : (match Try.prog.underlying 24 with | some (.struct fs) => (fs[0]?).map (fun fl => tK Try.prog fl.type) | _ => none) = some (some (false, 1)) := by kernel_rfl
theorem tf27_0 : (match Try.prog.underlying 27 with | some (.struct fs) => (fs[0]?).map (fun fl => tK Try.prog fl.type) | _ => none) = some (some (true, 1)) := by kernel_rfl
theorem tf27_1 : (match Try.prog.underlying 27 with | some (.struct fs) => (fs[1]?).map (fun fl => tK Try.prog fl.type) | _ => none) = some (some (false, 1)) := by kernel_rfl
theorem tf27_2 : (match Try.prog.underlying 27 with | some (.struct fs) => (fs[2]?).map (fun fl => tK Try.prog fl.type) | _ => none) = some (some (false, 1)) := by kernel_rfl
theorem tf27_3 : (match Try.prog.underlying 27 with | some (.struct fs) => (fs[3]?).map (fun fl => tK Try.prog fl.type) | _ => none) = some (some (false, 1)) := by kernel_rfl
theorem tf27_4 : (match Try.prog.underlying 27 with | some (.struct fs) => (fs[4]?).map (fun fl => tK Try.prog fl.type) | _ => none) = some (some (false, 1)) := by kernel_rfl
theorem tf27_5 : (match Try.prog.underlying 27 with | some (.struct fs) => (fs[5]?).map (fun fl => tK Try.prog fl.type) | _ => none) = some (some (false, 1)) := by kernel_rfl
theorem tf27_6 : (match Try.prog.underlying 27 with | some (.struct fs) => (fs[6]?).map (fun fl => tK Try.prog fl.type) | _ => none) = some (some (false, 1)) := by kernel_rfl
theorem tf28_0 : (match Try.prog.underlying 28 with | some (.struct fs) => (fs[0]?).map (fun fl => tK Try.prog fl.type) | _ => none) = some (some (true, 1)) := by kernel_rfl
theorem tf28_1 : (match Try.prog.underlying 28 with | some (.struct fs) => (fs[1]?).map (fun fl => tK Try.prog fl.type) | _ => none) = some (some (false, 1)) := by kernel_rfl
theorem tf28_2 : (match Try.prog.underlying 28 with | some (.struct fs) => (fs[2]?).map (fun fl => tK Try.prog fl.type) | _ => none) = some (some (false, 1)) := by kernel_rfl
theorem tf28_3 : (match Try.prog.underlying 28 with | some (.struct fs) => (fs[3]?).map (fun fl => tK Try.prog fl.type) | _ => none) = some (some (false, 1)) := by kernel_rfl
theorem tf28_4 : (match Try.prog.underlying 28 with | some (.struct fs) => (fs[4]?).map (fun fl => tK Try.prog fl.type) | _ => none) = some (some (false, 1)) := by kernel_rfl
theorem tf28_5 : (match Try.prog.underlying 28 with | some (.struct fs) => (fs[5]?).map (fun fl => tK Try.prog fl.type) | _ => none) = some (some (false, 1)) := by kernel_rfl
theorem tf28_6 : (match Try.prog.underlying 28 with | some (.struct fs) => (fs[6]?).map (fun fl => tK Try.prog fl.type) | _ => none) = some (some (false, 1)) := by kernel_rfl
theorem tf29_0 : (match Try.prog.underlying 29 with | some (.struct fs) => (fs[0]?).map (fun fl => tK Try.prog fl.type) | _ => none) = some (some (false, 1)) := by kernel_rfl
theorem tf29_1 : (match Try.prog.underlying 29 with | some (.struct fs) => (fs[1]?).map (fun fl => tK Try.prog fl.type) | _ => none) = some (some (false, 1)) := by kernel_rfl
theorem tf30_0 : (match Try.prog.underlying 30 with | some (.struct fs) => (fs[0]?).map (fun fl => tK Try.prog fl.type) | _ => none) = some (some (false, 1)) := by kernel_rfl
theorem tf30_1 : (match Try.prog.underlying 30 with | some (.struct fs) => (fs[1]?).map (fun fl => tK Try.prog fl.type) | _ => none) = some (some (false, 1)) := by kernel_rfl
theorem tf33_0 : (match Try.prog.underlying 33 with | some (.struct fs) => (fs[0]?).map (fun fl => tK Try.prog fl.type) | _ => none) = some (some (false, 1)) := by kernel_rfl
theorem tf33_1 : (match Try.prog.underlying 33 with | some (.struct fs) => (fs[1]?).map (fun fl => tK Try.prog fl.type) | _ => none) = some (some (false, 1)) := by kernel_rfl
theorem tf34_0 : (match Try.prog.underlying 34 with | some (.struct fs) => (fs[0]?).map (fun fl => tK Try.prog fl.type) | _ => none) = some (some (false, 1)) := by kernel_rfl
theorem tf34_1 : (match Try.prog.underlying 34 with | some (.struct fs) => (fs[1]?).map (fun fl => tK Try.prog fl.type) | _ => none) = some (some (false, 1)) := by kernel_rfl
theorem tf52_0 : (match Try.prog.underlying 52 with | some (.struct fs) => (fs[0]?).map (fun fl => tK Try.prog fl.type) | _ => none) = some (some (false, 1)) := by kernel_rfl
theorem tf52_1 : (match Try.prog.underlying 52 with | some (.struct fs) => (fs[1]?).map (fun fl => tK Try.prog fl.type) | _ => none) = some (some (true, 2)) := by kernel_rfl
theorem tf53_0 : (match Try.prog.underlying 53 with | some (.struct fs) => (fs[0]?).map (fun fl => tK Try.prog fl.type) | _ => none) = some (some (false, 1)) := by kernel_rfl
theorem tf53_1 : (match Try.prog.underlying 53 with | some (.struct fs) => (fs[1]?).map (fun fl => tK Try.prog fl.type) | _ => none) = some (some (true, 2)) := by kernel_rfl
theorem tf54_0 : (match Try.prog.underlying 54 with | some (.struct fs) => (fs[0]?).map (fun fl => tK Try.prog fl.type) | _ => none) = some (some (true, 3)) := by kernel_rfl
theorem tf54_1 : (match Try.prog.underlying 54 with | some (.struct fs) => (fs[1]?).map (fun fl => tK Try.prog fl.type) | _ => none) = some (some (false, 1)) := by kernel_rfl
theorem tf55_0 : (match Try.prog.underlying 55 with | some (.struct fs) => (fs[0]?).map (fun fl => tK Try.prog fl.type) | _ => none) = some (some (true, 3)) := by kernel_rfl
theorem tf55_1 : (match Try.prog.underlying 55 with | some (.struct fs) => (fs[1]?).map (fun fl => tK Try.prog fl.type) | _ => none) = some (some (false, 1)) := by kernel_rfl
theorem tf60_0 : (match Try.prog.underlying 60 with | some (.struct fs) => (fs[0]?).map (fun fl => tK Try.prog fl.type) | _ => none) = some (some (false, 1)) := by kernel_rfl
theorem tf60_1 : (match Try.prog.underlying 60 with | some (.struct fs) => (fs[1]?).map (fun fl => tK Try.prog fl.type) | _ => none) = some (some (true, 2)) := by kernel_rfl
theorem tf61_0 : (match Try.prog.underlying 61 with | some (.struct fs) => (fs[0]?).map (fun fl => tK Try.prog fl.type) | _ => none) = some (some (false, 1)) := by kernel_rfl
theorem tf61_1 : (match Try.prog.underlying 61 with | some (.struct fs) => (fs[1]?).map (fun fl => tK Try.prog fl.type) | _ => none) = some (some (true, 2)) := by kernel_rfl
theorem tf63_0 : (match Try.prog.underlying 63 with | some (.struct fs) => (fs[0]?).map (fun fl => tK Try.prog fl.type) | _ => none) = some (some (false, 1)) := by kernel_rfl
theorem tf63_1 : (match Try.prog.underlying 63 with | some (.struct fs) => (fs[1]?).map (fun fl => tK Try.prog fl.type) | _ => none) = some (some (false, 1)) := by kernel_rfl
theorem tf64_0 : (match Try.prog.underlying 64 with | some (.struct fs) => (fs[0]?).map (fun fl => tK Try.prog fl.type) | _ => none) = some (some (false, 1)) := by kernel_rfl
theorem tf64_1 : (match Try.prog.underlying 64 with | some (.struct fs) => (fs[1]?).map (fun fl => tK Try.prog fl.type) | _ => none) = some (some (false, 1)) := by kernel_rfl
theorem tf68_0 : (match Try.prog.underlying 68 with | some (.struct fs) => (fs[0]?).map (fun fl => tK Try.prog fl.type) | _ => none) = some (some (false, 1)) := by kernel_rfl
theorem tf68_1 : (match Try.prog.underlying 68 with | some (.struct fs) => (fs[1]?).map (fun fl => tK Try.prog fl.type) | _ => none) = some (some (false, 1)) := by kernel_rfl
theorem tf68_2 : (match Try.prog.underlying 68 with | some (.struct fs) => (fs[2]?).map (fun fl => tK Try.prog fl.type) | _ => none) = some (some (false, 1)) := by kernel_rfl
theorem tf69_0 : (match Try.prog.underlying 69 with | some (.struct fs) => (fs[0]?).map (fun fl => tK Try.prog fl.type) | _ => none) = some (some (false, 1)) := by kernel_rfl
theorem tf69_1 : (match Try.prog.underlying 69 with | some (.struct fs) => (fs[1]?).map (fun fl => tK Try.prog fl.type) | _ => none) = some (some (false, 1)) := by kernel_rfl
theorem tf69_2 : (match Try.prog.underlying 69 with | some (.struct fs) => (fs[2]?).map (fun fl => tK Try.prog fl.type) | _ => none) = some (some (false, 1)) := by kernel_rfl
theorem tf82_0 : (match Try.prog.underlying 82 with | some (.struct fs) => (fs[0]?).map (fun fl => tK Try.prog fl.type) | _ => none) = some (some (false, 1)) := by kernel_rfl
theorem tf82_1 : (match Try.prog.underlying 82 with | some (.struct fs) => (fs[1]?).map (fun fl => tK Try.prog fl.type) | _ => none) = some (some (false, 1)) := by kernel_rfl
theorem tf83_0 : (match Try.prog.underlying 83 with | some (.struct fs) => (fs[0]?).map (fun fl => tK Try.prog fl.type) | _ => none) = some (some (false, 1)) := by kernel_rfl
theorem tf83_1 : (match Try.prog.underlying 83 with | some (.struct fs) => (fs[1]?).map (fun fl => tK Try.prog fl.type) | _ => none) = some (some (false, 1)) := by kernel_rfl
theorem tf103_0 : (match Try.prog.underlying 103 with | some (.struct fs) => (fs[0]?).map (fun fl => tK Try.prog fl.type) | _ => none) = some (some (false, 1)) := by kernel_rfl
theorem tf116_0 : (match Try.prog.underlying 116 with | some (.struct fs) => (fs[0]?).map (fun fl => tK Try.prog fl.type) | _ => none) = some (some (true, 1)) := by kernel_rfl
theorem tf117_0 : (match Try.prog.underlying 117 with | some (.struct fs) => (fs[0]?).map (fun fl => tK Try.prog fl.type) | _ => none) = some (some (true, 1)) := by kernel_rfl
theorem tf125_0 : (match Try.prog.underlying 125 with | some (.struct fs) => (fs[0]?).map (fun fl => tK Try.prog fl.type) | _ => none) = some (some (false, 1)) := by kernel_rfl
theorem tf125_1 : (match Try.prog.underlying 125 with | some (.struct fs) => (fs[1]?).map (fun fl => tK Try.prog fl.type) | _ => none) = some (some (true, 2)) := by kernel_rfl
theorem tf125_2 : (match Try.prog.underlying 125 with | some (.struct fs) => (fs[2]?).map (fun fl => tK Try.prog fl.type) | _ => none) = some (some (true, 2)) := by kernel_rfl
theorem tf125_3 : (match Try.prog.underlying 125 with | some (.struct fs) => (fs[3]?).map (fun fl => tK Try.prog fl.type) | _ => none) = some (some (true, 2)) := by kernel_rfl
theorem tf125_4 : (match Try.prog.underlying 125 with | some (.struct fs) => (fs[4]?).map (fun fl => tK Try.prog fl.type) | _ => none) = some (some (false, 1)) := by kernel_rfl
theorem tf125_5 : (match Try.prog.underlying 125 with | some (.struct fs) => (fs[5]?).map (fun fl => tK Try.prog fl.type) | _ => none) = some (some (false, 1)) := by kernel_rfl
theorem tf126_0 : (match Try.prog.underlying 126 with | some (.struct fs) => (fs[0]?).map (fun fl => tK Try.prog fl.type) | _ => none) = some (some (false, 1)) := by kernel_rfl
theorem tf126_1 : (match Try.prog.underlying 126 with | some (.struct fs) => (fs[1]?).map (fun fl => tK Try.prog fl.type) | _ => none) = some (some (true, 2)) := by kernel_rfl
theorem tf126_2 : (match Try.prog.underlying 126 with | some (.struct fs) => (fs[2]?).map (fun fl => tK Try.prog fl.type) | _ => none) = some (some (true, 2)) := by kernel_rfl
theorem tf126_3 : (match Try.prog.underlying 126 with | some (.struct fs) => (fs[3]?).map (fun fl => tK Try.prog fl.type) | _ => none) = some (some (true, 2)) := by kernel_rfl
theorem tf126_4 : (match Try.prog.underlying 126 with | some (.struct fs) => (fs[4]?).map (fun fl => tK Try.prog fl.type) | _ => none) = some (some (false, 1)) := by kernel_rfl
theorem tf126_5 : (match Try.prog.underlying 126 with | some (.struct fs) => (fs[5]?).map (fun fl => tK Try.prog fl.type) | _ => none) = some (some (false, 1)) := by kernel_rfl
theorem tf141_0 : (match Try.prog.underlying 141 with | some (.struct fs) => (fs[0]?).map (fun fl => tK Try.prog fl.type) | _ => none) = some (some (true, 7)) := by kernel_rfl
theorem tf141_1 : (match Try.prog.underlying 141 with | some (.struct fs) => (fs[1]?).map (fun fl => tK Try.prog fl.type) | _ => none) = some (some (true, 3)) := by kernel_rfl
theorem tf141_2 : (match Try.prog.underlying 141 with | some (.struct fs) => (fs[2]?).map (fun fl => tK Try.prog fl.type) | _ => none) = some (some (false, 1)) := by kernel_rfl
theorem tf141_3 : (match Try.prog.underlying 141 with | some (.struct fs) => (fs[3]?).map (fun fl => tK Try.prog fl.type) | _ => none) = some (some (false, 1)) := by kernel_rfl
theorem tf141_4 : (match Try.prog.underlying 141 with | some (.struct fs) => (fs[4]?).map (fun fl => tK Try.prog fl.type) | _ => none) = some (some (false, 1)) := by kernel_rfl
theorem tf141_5 : (match Try.prog.underlying 141 with | some (.struct fs) => (fs[5]?).map (fun fl => tK Try.prog fl.type) | _ => none) = some (some (false, 1)) := by kernel_rfl
theorem tf142_0 : (match Try.prog.underlying 142 with | some (.struct fs) => (fs[0]?).map (fun fl => tK Try.prog fl.type) | _ => none) = some (some (true, 7)) := by kernel_rfl
theorem tf142_1 : (match Try.prog.underlying 142 with | some (.struct fs) => (fs[1]?).map (fun fl => tK Try.prog fl.type) | _ => none) = some (some (true, 3)) := by kernel_rfl
theorem tf142_2 : (match Try.prog.underlying 142 with | some (.struct fs) => (fs[2]?).map (fun fl => tK Try.prog fl.type) | _ => none) = some (some (false, 1)) := by kernel_rfl
theorem tf142_3 : (match Try.prog.underlying 142 with | some (.struct fs) => (fs[3]?).map (fun fl => tK Try.prog fl.type) | _ => none) = some (some (false, 1)) := by kernel_rfl
theorem tf142_4 : (match Try.prog.underlying 142 with | some (.struct fs) => (fs[4]?).map (fun fl => tK Try.prog fl.type) | _ => none) = some (some (false, 1)) := by kernel_rfl
theorem tf142_5 : (match Try.prog.underlying 142 with | some (.struct fs) => (fs[5]?).map (fun fl => tK Try.prog fl.type) | _ => none) = some (some (false, 1)) := by kernel_rfl
theorem tf145_0 : (match Try.prog.underlying 145 with | some (.struct fs) => (fs[0]?).map (fun fl => tK Try.prog fl.type) | _ => none) = some (some (false, 1)) := by kernel_rfl
theorem tf145_1 : (match Try.prog.underlying 145 with | some (.struct fs) => (fs[1]?).map (fun fl => tK Try.prog fl.type) | _ => none) = some (some (false, 1)) := by kernel_rfl
theorem tf146_0 : (match Try.prog.underlying 146 with | some (.struct fs) => (fs[0]?).map (fun fl => tK Try.prog fl.type) | _ => none) = some (some (false, 1)) := by kernel_rfl
theorem tf146_1 : (match Try.prog.underlying 146 with | some (.struct fs) => (fs[1]?).map (fun fl => tK Try.prog fl.type) | _ => none) = some (some (false, 1)) := by kernel_rfl
theorem tf201_0 : (match Try.prog.underlying 201 with | some (.struct fs) => (fs[0]?).map (fun fl => tK Try.prog fl.type) | _ => none) = some (some (false, 1)) := by kernel_rfl
theorem tf201_1 : (match Try.prog.underlying 201 with | some (.struct fs) => (fs[1]?).map (fun fl => tK Try.prog fl.type) | _ => none) = some (some (false, 1)) := by kernel_rfl
theorem tf201_2 : (match Try.prog.underlying 201 with | some (.struct fs) => (fs[2]?).map (fun fl => tK Try.prog fl.type) | _ => none) = some (some (false, 1)) := by kernel_rfl
theorem tf201_3 : (match Try.prog.underlying 201 with | some (.struct fs) => (fs[3]?).map (fun fl => tK Try.prog fl.type) | _ => none) = some (some (false, 1)) := by kernel_rfl
theorem tf201_4 : (match Try.prog.underlying 201 with | some (.struct fs) => (fs[4]?).map (fun fl => tK Try.prog fl.type) | _ => none) = some (some (false, 1)) := by kernel_rfl
theorem tf201_5 : (match Try.prog.underlying 201 with | some (.struct fs) => (fs[5]?).map (fun fl => tK Try.prog fl.type) | _ => none) = some (some (false, 1)) := by kernel_rfl
theorem tf201_6 : (match Try.prog.underlying 201 with | some (.struct fs) => (fs[6]?).map (fun fl => tK Try.prog fl.type) | _ => none) = some (some (false, 1)) := by kernel_rfl
theorem tf201_7 : (match Try.prog.underlying 201 with | some (.struct fs) => (fs[7]?).map (fun fl => tK Try.prog fl.type) | _ => none) = some (some (false, 1)) := by kernel_rfl
theorem tf201_8 : (match Try.prog.underlying 201 with | some (.struct fs) => (fs[8]?).map (fun fl => tK Try.prog fl.type) | _ => none) = some (some (false, 1)) := by kernel_rfl
theorem tf201_9 : (match Try.prog.underlying 201 with | some (.struct fs) => (fs[9]?).map (fun fl => tK Try.prog fl.type) | _ => none) = some (some (false, 1)) := by kernel_rfl
theorem tf201_10 : (match Try.prog.underlying 201 with | some (.struct fs) => (fs[10]?).map (fun fl => tK Try.prog fl.type) | _ => none) = some (some (false, 1)) := by kernel_rfl
theorem tf202_0 : (match Try.prog.underlying 202 with | some (.struct fs) => (fs[0]?).map (fun fl => tK Try.prog fl.type) | _ => none) = some (some (false, 1)) := by kernel_rfl
theorem tf202_1 : (match Try.prog.underlying 202 with | some (.struct fs) => (fs[1]?).map (fun fl => tK Try.prog fl.type) | _ => none) = some (some (false, 1)) := by kernel_rfl
theorem tf202_2 : (match Try.prog.underlying 202 with | some (.struct fs) => (fs[2]?).map (fun fl => tK Try.prog fl.type) | _ => none) = some (some (false, 1)) := by kernel_rfl
theorem tf202_3 : (match Try.prog.underlying 202 with | some (.struct fs) => (fs[3]?).map (fun fl => tK Try.prog fl.type) | _ => none) = some (some (false, 1)) := by kernel_rfl
theorem tf202_4 : (match Try.prog.underlying 202 with | some (.struct fs) => (fs[4]?).map (fun fl => tK Try.prog fl.type) | _ => none) = some (some (false, 1)) := by kernel_rfl
theorem tf202_5 : (match Try.prog.underlying 202 with | some (.struct fs) => (fs[5]?).map (fun fl => tK Try.prog fl.type) | _ => none) = some (some (false, 1)) := by kernel_rfl
theorem tf202_6 : (match Try.prog.underlying 202 with | some (.struct fs) => (fs[6]?).map (fun fl => tK Try.prog fl.type) | _ => none) = some (some (false, 1)) := by kernel_rfl
theorem tf202_7 : (match Try.prog.underlying 202 with | some (.struct fs) => (fs[7]?).map (fun fl => tK Try.prog fl.type) | _ => none) = some (some (false, 1)) := by kernel_rfl
theorem tf202_8 : (match Try.prog.underlying 202 with | some (.struct fs) => (fs[8]?).map (fun fl => tK Try.prog fl.type) | _ => none) = some (some (false, 1)) := by kernel_rfl
theorem tf202_9 : (match Try.prog.underlying 202 with | some (.struct fs) => (fs[9]?).map (fun fl => tK Try.prog fl.type) | _ => none) = some (some (false, 1)) := by kernel_rfl
theorem tf202_10 : (match Try.prog.underlying 202 with | some (.struct fs) => (fs[10]?).map (fun fl => tK Try.prog fl.type) | _ => none) = some (some (false, 1)) := by kernel_rfl
theorem tv2 : tV Try.prog 2 = some (Value.int .i64 0) := by kernel_rfl
theorem tv3 : tV Try.prog 3 = some (Value.int .i64 0) := by kernel_rfl
theorem tv4 : tV Try.prog 4 = some (Value.bool false) := by kernel_rfl
theorem tv5 : tV Try.prog 5 = some (Value.int .u8 0) := by kernel_rfl
theorem tv6 : tV Try.prog 6 = some (Value.int .u8 0) := by kernel_rfl
theorem tv7 : tV Try.prog 7 = some (Value.agg [(Value.int .i64 0), (Value.int .i64 0), (Value.bool false), (Value.int .u8 0)].toArray) := by kernel_rfl
theorem tv8 : tV Try.prog 8 = some (Value.agg [(Value.int .i64 0), (Value.int .i64 0), (Value.bool false), (Value.int .u8 0)].toArray) := by kernel_rfl
theorem tv12 : tV Try.prog 12 = some (Value.int .u64 0) := by kernel_rfl
theorem tv18 : tV Try.prog 18 = some (Value.agg [(Value.pointer none)].toArray) := by kernel_rfl
theorem tv19 : tV Try.prog 19 = some (Value.agg [(Value.pointer none)].toArray) := by kernel_rfl
theorem tv21 : tV Try.prog 21 = some (Value.int .i32 0) := by kernel_rfl
theorem tv23 : tV Try.prog 23 = some (Value.agg [(Value.slice none 0 0)].toArray) := by kernel_rfl
theorem tv24 : tV Try.prog 24 = some (Value.agg [(Value.slice none 0 0)].toArray) := by kernel_rfl
theorem tv27 : tV Try.prog 27 = some (Value.agg [(Value.slice none 0 0), (Value.int .i64 0), (Value.slice none 0 0), (Value.slice none 0 0), (Value.int .i64 0), (Value.int .i64 0), (Value.int .i64 0)].toArray) := by kernel_rfl
theorem tv28 : tV Try.prog 28 = some (Value.agg [(Value.slice none 0 0), (Value.int .i64 0), (Value.slice none 0 0), (Value.slice none 0 0), (Value.int .i64 0), (Value.int .i64 0), (Value.int .i64 0)].toArray) := by kernel_rfl
theorem tv29 : tV Try.prog 29 = some (Value.agg [(Value.int .i64 0), (Value.int .i64 0)].toArray) := by kernel_rfl
theorem tv30 : tV Try.prog 30 = some (Value.agg [(Value.int .i64 0), (Value.int .i64 0)].toArray) := by kernel_rfl
theorem tv33 : tV Try.prog 33 = some (Value.agg [(Value.int .i64 0), (Value.int .i64 0)].toArray) := by kernel_rfl
theorem tv34 : tV Try.prog 34 = some (Value.agg [(Value.int .i64 0), (Value.int .i64 0)].toArray) := by kernel_rfl
theorem tv35 : tV Try.prog 35 = some (Value.int .i64 0) := by kernel_rfl
theorem tv50 : tV Try.prog 50 = some (Value.int .u32 0) := by kernel_rfl
theorem tv52 : tV Try.prog 52 = some (Value.agg [(Value.int .i64 0), (Value.int .i64 0), (Value.int .i64 0)].toArray) := by kernel_rfl
theorem tv53 : tV Try.prog 53 = some (Value.agg [(Value.int .i64 0), (Value.int .i64 0), (Value.int .i64 0)].toArray) := by kernel_rfl
theorem tv54 : tV Try.prog 54 = some (Value.agg [(Value.int .i64 0), (Value.int .i64 0), (Value.int .i64 0), (Value.int .i64 0)].toArray) := by kernel_rfl
theorem tv55 : tV Try.prog 55 = some (Value.agg [(Value.int .i64 0), (Value.int .i64 0), (Value.int .i64 0), (Value.int .i64 0)].toArray) := by kernel_rfl
theorem tv60 : tV Try.prog 60 = some (Value.agg [(Value.int .i64 0), (Value.int .i64 0), (Value.int .i64 0)].toArray) := by kernel_rfl
theorem tv61 : tV Try.prog 61 = some (Value.agg [(Value.int .i64 0), (Value.int .i64 0), (Value.int .i64 0)].toArray) := by kernel_rfl
theorem tv63 : tV Try.prog 63 = some (Value.agg [(Value.int .i64 0), (Value.slice none 0 0)].toArray) := by kernel_rfl
theorem tv64 : tV Try.prog 64 = some (Value.agg [(Value.int .i64 0), (Value.slice none 0 0)].toArray) := by kernel_rfl
theorem tv68 : tV Try.prog 68 = some (Value.agg [(Value.int .i64 0), (Value.int .i64 0), (Value.slice none 0 0)].toArray) := by kernel_rfl
theorem tv69 : tV Try.prog 69 = some (Value.agg [(Value.int .i64 0), (Value.int .i64 0), (Value.slice none 0 0)].toArray) := by kernel_rfl
theorem tv70 : tV Try.prog 70 = some (Value.int .u16 0) := by kernel_rfl
theorem tv82 : tV Try.prog 82 = some (Value.agg [(Value.slice none 0 0), (Value.slice none 0 0)].toArray) := by kernel_rfl
theorem tv83 : tV Try.prog 83 = some (Value.agg [(Value.slice none 0 0), (Value.slice none 0 0)].toArray) := by kernel_rfl
theorem tv103 : tV Try.prog 103 = some (Value.agg [Value.nilFunc].toArray) := by kernel_rfl
theorem tv116 : tV Try.prog 116 = some (Value.agg [(Value.slice none 0 0)].toArray) := by kernel_rfl
theorem tv117 : tV Try.prog 117 = some (Value.agg [(Value.slice none 0 0)].toArray) := by kernel_rfl
theorem tv125 : tV Try.prog 125 = some (Value.agg [(Value.int .i64 0), (Value.int .i64 0), (Value.int .i64 0), (Value.int .i64 0), (Value.int .i64 0), (Value.int .i64 0), (Value.int .i64 0), (Value.int .u8 0), (Value.int .i64 0)].toArray) := by kernel_rfl
theorem tv126 : tV Try.prog 126 = some (Value.agg [(Value.int .i64 0), (Value.int .i64 0), (Value.int .i64 0), (Value.int .i64 0), (Value.int .i64 0), (Value.int .i64 0), (Value.int .i64 0), (Value.int .u8 0), (Value.int .i64 0)].toArray) := by kernel_rfl
theorem tv141 : tV Try.prog 141 = some (Value.agg [(Value.slice none 0 0), (Value.int .i64 0), (Value.slice none 0 0), (Value.slice none 0 0), (Value.int .i64 0), (Value.int .i64 0), (Value.int .i64 0), (Value.int .i64 0), (Value.int .i64 0), (Value.slice none 0 0), (Value.slice none 0 0), (Value.slice none 0 0), (Value.slice none 0 0), (Value.slice none 0 0)].toArray) := by kernel_rfl
theorem tv142 : tV Try.prog 142 = some (Value.agg [(Value.slice none 0 0), (Value.int .i64 0), (Value.slice none 0 0), (Value.slice none 0 0), (Value.int .i64 0), (Value.int .i64 0), (Value.int .i64 0), (Value.int .i64 0), (Value.int .i64 0), (Value.slice none 0 0), (Value.slice none 0 0), (Value.slice none 0 0), (Value.slice none 0 0), (Value.slice none 0 0)].toArray) := by kernel_rfl
theorem tv145 : tV Try.prog 145 = some (Value.agg [(Value.int .i64 0), (Value.int .i64 0)].toArray) := by kernel_rfl
theorem tv146 : tV Try.prog 146 = some (Value.agg [(Value.int .i64 0), (Value.int .i64 0)].toArray) := by kernel_rfl
theorem tv159 : tV Try.prog 159 = some (Value.int .u64 0) := by kernel_rfl
theorem tv168 : tV Try.prog 168 = some (Value.int .i64 0) := by kernel_rfl
theorem tv177 : tV Try.prog 177 = some (Value.int .u64 0) := by kernel_rfl
theorem tv180 : tV Try.prog 180 = some (Value.int .u64 0) := by kernel_rfl
theorem tv192 : tV Try.prog 192 = some (Value.agg [].toArray) := by kernel_rfl
theorem tv193 : tV Try.prog 193 = some (Value.agg [].toArray) := by kernel_rfl
theorem tv195 : tV Try.prog 195 = some (Value.int .u8 0) := by kernel_rfl
theorem tv196 : tV Try.prog 196 = some (Value.int .u8 0) := by kernel_rfl
theorem tv199 : tV Try.prog 199 = some (Value.int .i32 0) := by kernel_rfl
theorem tv200 : tV Try.prog 200 = some (Value.int .i32 0) := by kernel_rfl
theorem tv201 : tV Try.prog 201 = some (Value.agg [(Value.int .u64 0), (Value.int .u64 0), (Value.int .u32 0), (Value.int .u8 0), (Value.int .u8 0), (Value.int .u8 0), (Value.int .u8 0), Value.nilFunc, (Value.pointer none), (Value.int .i32 0), (Value.int .i32 0)].toArray) := by kernel_rfl
theorem tv202 : tV Try.prog 202 = some (Value.agg [(Value.int .u64 0), (Value.int .u64 0), (Value.int .u32 0), (Value.int .u8 0), (Value.int .u8 0), (Value.int .u8 0), (Value.int .u8 0), Value.nilFunc, (Value.pointer none), (Value.int .i32 0), (Value.int .i32 0)].toArray) := by kernel_rfl
theorem tx104 : tX Try.prog 104 = some (4, 103) := by kernel_rfl
theorem tx191 : tX Try.prog 191 = some (0, 16) := by kernel_rfl
theorem tz1 : tZ Try.prog 1 = some [Value.nilFunc] := by kernel_rfl
theorem tz2 : tZ Try.prog 2 = some [(Value.int .i64 0)] := by kernel_rfl
theorem tz3 : tZ Try.prog 3 = some [(Value.int .i64 0)] := by kernel_rfl
theorem tz4 : tZ Try.prog 4 = some [(Value.bool false)] := by kernel_rfl
theorem tz5 : tZ Try.prog 5 = some [(Value.int .u8 0)] := by kernel_rfl
theorem tz6 : tZ Try.prog 6 = some [(Value.int .u8 0)] := by kernel_rfl
theorem tz7 : tZ Try.prog 7 = some [(Value.int .i64 0), (Value.int .i64 0), (Value.bool false), (Value.int .u8 0)] := by kernel_rfl
theorem tz8 : tZ Try.prog 8 = some [(Value.int .i64 0), (Value.int .i64 0), (Value.bool false), (Value.int .u8 0)] := by kernel_rfl
theorem tz12 : tZ Try.prog 12 = some [(Value.int .u64 0)] := by kernel_rfl
theorem tz15 : tZ Try.prog 15 = some [(Value.pointer none)] := by kernel_rfl
theorem tz16 : tZ Try.prog 16 = some [(Value.pointer none)] := by kernel_rfl
theorem tz17 : tZ Try.prog 17 = some [(Value.pointer none)] := by kernel_rfl
theorem tz18 : tZ Try.prog 18 = some [(Value.pointer none)] := by kernel_rfl
theorem tz19 : tZ Try.prog 19 = some [(Value.pointer none)] := by kernel_rfl
theorem tz21 : tZ Try.prog 21 = some [(Value.int .i32 0)] := by kernel_rfl
theorem tz22 : tZ Try.prog 22 = some [(Value.slice none 0 0)] := by kernel_rfl
theorem tz23 : tZ Try.prog 23 = some [(Value.slice none 0 0)] := by kernel_rfl
theorem tz24 : tZ Try.prog 24 = some [(Value.slice none 0 0)] := by kernel_rfl
theorem tz25 : tZ Try.prog 25 = some [(Value.slice none 0 0)] := by kernel_rfl
theorem tz26 : tZ Try.prog 26 = some [(Value.slice none 0 0)] := by kernel_rfl
theorem tz27 : tZ Try.prog 27 = some [(Value.slice none 0 0), (Value.int .i64 0), (Value.slice none 0 0), (Value.slice none 0 0), (Value.int .i64 0), (Value.int .i64 0), (Value.int .i64 0)] := by kernel_rfl
theorem tz28 : tZ Try.prog 28 = some [(Value.slice none 0 0), (Value.int .i64 0), (Value.slice none 0 0), (Value.slice none 0 0), (Value.int .i64 0), (Value.int .i64 0), (Value.int .i64 0)] := by kernel_rfl
theorem tz29 : tZ Try.prog 29 = some [(Value.int .i64 0), (Value.int .i64 0)] := by kernel_rfl
theorem tz30 : tZ Try.prog 30 = some [(Value.int .i64 0), (Value.int .i64 0)] := by kernel_rfl
theorem tz31 : tZ Try.prog 31 = some [Value.nilFunc] := by kernel_rfl
theorem tz32 : tZ Try.prog 32 = some [Value.nilFunc] := by kernel_rfl
theorem tz33 : tZ Try.prog 33 = some [(Value.int .i64 0), (Value.int .i64 0)] := by kernel_rfl
theorem tz34 : tZ Try.prog 34 = some [(Value.int .i64 0), (Value.int .i64 0)] := by kernel_rfl
theorem tz35 : tZ Try.prog 35 = some [(Value.int .i64 0)] := by kernel_rfl
theorem tz37 : tZ Try.prog 37 = some [Value.nilFunc] := by kernel_rfl
theorem tz39 : tZ Try.prog 39 = some [Value.nilFunc] := by kernel_rfl
theorem tz40 : tZ Try.prog 40 = some [Value.nilFunc] := by kernel_rfl
theorem tz41 : tZ Try.prog 41 = some [Value.nilFunc] := by kernel_rfl
theorem tz43 : tZ Try.prog 43 = some [Value.nilFunc] := by kernel_rfl
theorem tz45 : tZ Try.prog 45 = some [Value.nilFunc] := by kernel_rfl
theorem tz46 : tZ Try.prog 46 = some [Value.nilFunc] := by kernel_rfl
theorem tz47 : tZ Try.prog 47 = some [Value.nilFunc] := by kernel_rfl
theorem tz48 : tZ Try.prog 48 = some [Value.nilFunc] := by kernel_rfl
theorem tz49 : tZ Try.prog 49 = some [Value.nilFunc] := by kernel_rfl
theorem tz50 : tZ Try.prog 50 = some [(Value.int .u32 0)] := by kernel_rfl
theorem tz51 : tZ Try.prog 51 = some [Value.nilFunc] := by kernel_rfl
theorem tz52 : tZ Try.prog 52 = some [(Value.int .i64 0), (Value.int .i64 0), (Value.int .i64 0)] := by kernel_rfl
theorem tz53 : tZ Try.prog 53 = some [(Value.int .i64 0), (Value.int .i64 0), (Value.int .i64 0)] := by kernel_rfl
theorem tz54 : tZ Try.prog 54 = some [(Value.int .i64 0), (Value.int .i64 0), (Value.int .i64 0), (Value.int .i64 0)] := by kernel_rfl
theorem tz55 : tZ Try.prog 55 = some [(Value.int .i64 0), (Value.int .i64 0), (Value.int .i64 0), (Value.int .i64 0)] := by kernel_rfl
theorem tz56 : tZ Try.prog 56 = some [Value.nilFunc] := by kernel_rfl
theorem tz57 : tZ Try.prog 57 = some [(Value.slice none 0 0)] := by kernel_rfl
theorem tz59 : tZ Try.prog 59 = some [Value.nilFunc] := by kernel_rfl
theorem tz60 : tZ Try.prog 60 = some [(Value.int .i64 0), (Value.int .i64 0), (Value.int .i64 0)] := by kernel_rfl
theorem tz61 : tZ Try.prog 61 = some [(Value.int .i64 0), (Value.int .i64 0), (Value.int .i64 0)] := by kernel_rfl
theorem tz62 : tZ Try.prog 62 = some [(Value.slice none 0 0)] := by kernel_rfl
theorem tz63 : tZ Try.prog 63 = some [(Value.int .i64 0), (Value.slice none 0 0)] := by kernel_rfl
theorem tz64 : tZ Try.prog 64 = some [(Value.int .i64 0), (Value.slice none 0 0)] := by kernel_rfl
theorem tz65 : tZ Try.prog 65 = some [Value.nilFunc] := by kernel_rfl
theorem tz66 : tZ Try.prog 66 = some [Value.nilFunc] := by kernel_rfl
theorem tz67 : tZ Try.prog 67 = some [(Value.slice none 0 0)] := by kernel_rfl
theorem tz68 : tZ Try.prog 68 = some [(Value.int .i64 0), (Value.int .i64 0), (Value.slice none 0 0)] := by kernel_rfl
theorem tz69 : tZ Try.prog 69 = some [(Value.int .i64 0), (Value.int .i64 0), (Value.slice none 0 0)] := by kernel_rfl
theorem tz70 : tZ Try.prog 70 = some [(Value.int .u16 0)] := by kernel_rfl
theorem tz71 : tZ Try.prog 71 = some [Value.nilFunc] := by kernel_rfl
theorem tz73 : tZ Try.prog 73 = some [Value.nilFunc] := by kernel_rfl
theorem tz74 : tZ Try.prog 74 = some [(Value.slice none 0 0)] := by kernel_rfl
theorem tz75 : tZ Try.prog 75 = some [Value.nilFunc] := by kernel_rfl
theorem tz76 : tZ Try.prog 76 = some [Value.nilFunc] := by kernel_rfl
theorem tz77 : tZ Try.prog 77 = some [Value.nilFunc] := by kernel_rfl
theorem tz78 : tZ Try.prog 78 = some [Value.nilFunc] := by kernel_rfl
theorem tz80 : tZ Try.prog 80 = some [Value.nilFunc] := by kernel_rfl
theorem tz81 : tZ Try.prog 81 = some [(Value.slice none 0 0)] := by kernel_rfl
theorem tz82 : tZ Try.prog 82 = some [(Value.slice none 0 0), (Value.slice none 0 0)] := by kernel_rfl
theorem tz83 : tZ Try.prog 83 = some [(Value.slice none 0 0), (Value.slice none 0 0)] := by kernel_rfl
theorem tz85 : tZ Try.prog 85 = some [Value.nilFunc] := by kernel_rfl
theorem tz86 : tZ Try.prog 86 = some [Value.nilFunc] := by kernel_rfl
theorem tz87 : tZ Try.prog 87 = some [Value.nilFunc] := by kernel_rfl
theorem tz88 : tZ Try.prog 88 = some [Value.nilFunc] := by kernel_rfl
theorem tz89 : tZ Try.prog 89 = some [Value.nilFunc] := by kernel_rfl
theorem tz90 : tZ Try.prog 90 = some [Value.nilFunc] := by kernel_rfl
theorem tz91 : tZ Try.prog 91 = some [Value.nilFunc] := by kernel_rfl
theorem tz92 : tZ Try.prog 92 = some [Value.nilFunc] := by kernel_rfl
theorem tz93 : tZ Try.prog 93 = some [Value.nilFunc] := by kernel_rfl
theorem tz94 : tZ Try.prog 94 = some [Value.nilFunc] := by kernel_rfl
theorem tz95 : tZ Try.prog 95 = some [Value.nilFunc] := by kernel_rfl
theorem tz96 : tZ Try.prog 96 = some [Value.nilFunc] := by kernel_rfl
theorem tz97 : tZ Try.prog 97 = some [Value.nilFunc] := by kernel_rfl
theorem tz98 : tZ Try.prog 98 = some [Value.nilFunc] := by kernel_rfl
theorem tz100 : tZ Try.prog 100 = some [Value.nilFunc] := by kernel_rfl
theorem tz101 : tZ Try.prog 101 = some [Value.nilFunc] := by kernel_rfl
theorem tz102 : tZ Try.prog 102 = some [Value.nilFunc] := by kernel_rfl
theorem tz103 : tZ Try.prog 103 = some [Value.nilFunc] := by kernel_rfl
theorem tz104 : tZ Try.prog 104 = some [Value.nilFunc, Value.nilFunc, Value.nilFunc, Value.nilFunc] := by kernel_rfl
theorem tz105 : tZ Try.prog 105 = some [Value.nilFunc] := by kernel_rfl
theorem tz106 : tZ Try.prog 106 = some [Value.nilFunc] := by kernel_rfl
theorem tz107 : tZ Try.prog 107 = some [(Value.pointer none)] := by kernel_rfl
theorem tz109 : tZ Try.prog 109 = some [Value.nilFunc] := by kernel_rfl
theorem tz110 : tZ Try.prog 110 = some [Value.nilFunc] := by kernel_rfl
theorem tz111 : tZ Try.prog 111 = some [Value.nilFunc] := by kernel_rfl
theorem tz112 : tZ Try.prog 112 = some [Value.nilFunc] := by kernel_rfl
theorem tz113 : tZ Try.prog 113 = some [Value.nilFunc] := by kernel_rfl
theorem tz114 : tZ Try.prog 114 = some [Value.nilFunc] := by kernel_rfl
theorem tz115 : tZ Try.prog 115 = some [Value.nilFunc] := by kernel_rfl
theorem tz116 : tZ Try.prog 116 = some [(Value.slice none 0 0)] := by kernel_rfl
theorem tz117 : tZ Try.prog 117 = some [(Value.slice none 0 0)] := by kernel_rfl
theorem tz119 : tZ Try.prog 119 = some [Value.nilFunc] := by kernel_rfl
theorem tz120 : tZ Try.prog 120 = some [Value.nilFunc] := by kernel_rfl
theorem tz122 : tZ Try.prog 122 = some [Value.nilFunc] := by kernel_rfl
theorem tz123 : tZ Try.prog 123 = some [Value.nilFunc] := by kernel_rfl
theorem tz124 : tZ Try.prog 124 = some [Value.nilFunc] := by kernel_rfl
theorem tz125 : tZ Try.prog 125 = some [(Value.int .i64 0), (Value.int .i64 0), (Value.int .i64 0), (Value.int .i64 0), (Value.int .i64 0), (Value.int .i64 0), (Value.int .i64 0), (Value.int .u8 0), (Value.int .i64 0)] := by kernel_rfl
theorem tz126 : tZ Try.prog 126 = some [(Value.int .i64 0), (Value.int .i64 0), (Value.int .i64 0), (Value.int .i64 0), (Value.int .i64 0), (Value.int .i64 0), (Value.int .i64 0), (Value.int .u8 0), (Value.int .i64 0)] := by kernel_rfl
theorem tz127 : tZ Try.prog 127 = some [(Value.map none)] := by kernel_rfl
theorem tz128 : tZ Try.prog 128 = some [Value.nilFunc] := by kernel_rfl
theorem tz129 : tZ Try.prog 129 = some [Value.nilFunc] := by kernel_rfl
theorem tz130 : tZ Try.prog 130 = some [Value.nilFunc] := by kernel_rfl
theorem tz131 : tZ Try.prog 131 = some [Value.nilFunc] := by kernel_rfl
theorem tz132 : tZ Try.prog 132 = some [Value.nilFunc] := by kernel_rfl
theorem tz133 : tZ Try.prog 133 = some [Value.nilFunc] := by kernel_rfl
theorem tz134 : tZ Try.prog 134 = some [Value.nilFunc] := by kernel_rfl
theorem tz135 : tZ Try.prog 135 = some [Value.nilFunc] := by kernel_rfl
theorem tz136 : tZ Try.prog 136 = some [Value.nilFunc] := by kernel_rfl
theorem tz137 : tZ Try.prog 137 = some [Value.nilFunc] := by kernel_rfl
theorem tz138 : tZ Try.prog 138 = some [(Value.slice none 0 0)] := by kernel_rfl
theorem tz139 : tZ Try.prog 139 = some [(Value.slice none 0 0)] := by kernel_rfl
theorem tz140 : tZ Try.prog 140 = some [(Value.slice none 0 0)] := by kernel_rfl
theorem tz141 : tZ Try.prog 141 = some [(Value.slice none 0 0), (Value.int .i64 0), (Value.slice none 0 0), (Value.slice none 0 0), (Value.int .i64 0), (Value.int .i64 0), (Value.int .i64 0), (Value.int .i64 0), (Value.int .i64 0), (Value.slice none 0 0), (Value.slice none 0 0), (Value.slice none 0 0), (Value.slice none 0 0), (Value.slice none 0 0)] := by kernel_rfl
theorem tz142 : tZ Try.prog 142 = some [(Value.slice none 0 0), (Value.int .i64 0), (Value.slice none 0 0), (Value.slice none 0 0), (Value.int .i64 0), (Value.int .i64 0), (Value.int .i64 0), (Value.int .i64 0), (Value.int .i64 0), (Value.slice none 0 0), (Value.slice none 0 0), (Value.slice none 0 0), (Value.slice none 0 0), (Value.slice none 0 0)] := by kernel_rfl
theorem tz143 : tZ Try.prog 143 = some [(Value.map none)] := by kernel_rfl
theorem tz144 : tZ Try.prog 144 = some [(Value.map none)] := by kernel_rfl
theorem tz145 : tZ Try.prog 145 = some [(Value.int .i64 0), (Value.int .i64 0)] := by kernel_rfl
theorem tz146 : tZ Try.prog 146 = some [(Value.int .i64 0), (Value.int .i64 0)] := by kernel_rfl
theorem tz147 : tZ Try.prog 147 = some [Value.nilFunc] := by kernel_rfl
theorem tz148 : tZ Try.prog 148 = some [Value.nilFunc] := by kernel_rfl
theorem tz149 : tZ Try.prog 149 = some [Value.nilFunc] := by kernel_rfl
theorem tz150 : tZ Try.prog 150 = some [Value.nilFunc] := by kernel_rfl
theorem tz151 : tZ Try.prog 151 = some [(Value.slice none 0 0)] := by kernel_rfl
theorem tz152 : tZ Try.prog 152 = some [Value.nilFunc] := by kernel_rfl
theorem tz153 : tZ Try.prog 153 = some [Value.nilFunc] := by kernel_rfl
theorem tz154 : tZ Try.prog 154 = some [Value.nilFunc] := by kernel_rfl
theorem tz155 : tZ Try.prog 155 = some [Value.nilFunc] := by kernel_rfl
theorem tz156 : tZ Try.prog 156 = some [Value.nilFunc] := by kernel_rfl
theorem tz157 : tZ Try.prog 157 = some [Value.nilFunc] := by kernel_rfl
theorem tz158 : tZ Try.prog 158 = some [Value.nilFunc] := by kernel_rfl
theorem tz159 : tZ Try.prog 159 = some [(Value.int .u64 0)] := by kernel_rfl
theorem tz160 : tZ Try.prog 160 = some [Value.nilFunc] := by kernel_rfl
theorem tz161 : tZ Try.prog 161 = some [Value.nilFunc] := by kernel_rfl
theorem tz162 : tZ Try.prog 162 = some [Value.nilFunc] := by kernel_rfl
theorem tz163 : tZ Try.prog 163 = some [Value.nilFunc] := by kernel_rfl
theorem tz164 : tZ Try.prog 164 = some [Value.nilFunc] := by kernel_rfl
theorem tz166 : tZ Try.prog 166 = some [Value.nilFunc] := by kernel_rfl
theorem tz167 : tZ Try.prog 167 = some [Value.nilFunc] := by kernel_rfl
theorem tz168 : tZ Try.prog 168 = some [(Value.int .i64 0)] := by kernel_rfl
theorem tz170 : tZ Try.prog 170 = some [Value.nilFunc] := by kernel_rfl
theorem tz171 : tZ Try.prog 171 = some [Value.nilFunc] := by kernel_rfl
theorem tz172 : tZ Try.prog 172 = some [Value.nilFunc] := by kernel_rfl
theorem tz173 : tZ Try.prog 173 = some [Value.nilFunc] := by kernel_rfl
theorem tz174 : tZ Try.prog 174 = some [Value.nilFunc] := by kernel_rfl
theorem tz175 : tZ Try.prog 175 = some [Value.nilFunc] := by kernel_rfl
theorem tz176 : tZ Try.prog 176 = some [Value.nilFunc] := by kernel_rfl
theorem tz177 : tZ Try.prog 177 = some [(Value.int .u64 0)] := by kernel_rfl
theorem tz178 : tZ Try.prog 178 = some [Value.nilFunc] := by kernel_rfl
theorem tz179 : tZ Try.prog 179 = some [Value.nilFunc] := by kernel_rfl
theorem tz180 : tZ Try.prog 180 = some [(Value.int .u64 0)] := by kernel_rfl
theorem tz181 : tZ Try.prog 181 = some [Value.nilFunc] := by kernel_rfl
theorem tz182 : tZ Try.prog 182 = some [Value.nilFunc] := by kernel_rfl
theorem tz183 : tZ Try.prog 183 = some [Value.nilFunc] := by kernel_rfl
theorem tz184 : tZ Try.prog 184 = some [(Value.pointer none)] := by kernel_rfl
theorem tz185 : tZ Try.prog 185 = some [Value.nilFunc] := by kernel_rfl
theorem tz186 : tZ Try.prog 186 = some [(Value.pointer none)] := by kernel_rfl
theorem tz187 : tZ Try.prog 187 = some [Value.nilFunc] := by kernel_rfl
theorem tz188 : tZ Try.prog 188 = some [Value.nilFunc] := by kernel_rfl
theorem tz191 : tZ Try.prog 191 = some [] := by kernel_rfl
theorem tz192 : tZ Try.prog 192 = some [] := by kernel_rfl
theorem tz193 : tZ Try.prog 193 = some [] := by kernel_rfl
theorem tz194 : tZ Try.prog 194 = some [Value.nilFunc] := by kernel_rfl
theorem tz195 : tZ Try.prog 195 = some [(Value.int .u8 0)] := by kernel_rfl
theorem tz196 : tZ Try.prog 196 = some [(Value.int .u8 0)] := by kernel_rfl
theorem tz197 : tZ Try.prog 197 = some [Value.nilFunc] := by kernel_rfl
theorem tz198 : tZ Try.prog 198 = some [(Value.pointer none)] := by kernel_rfl
theorem tz199 : tZ Try.prog 199 = some [(Value.int .i32 0)] := by kernel_rfl
theorem tz200 : tZ Try.prog 200 = some [(Value.int .i32 0)] := by kernel_rfl
theorem tz201 : tZ Try.prog 201 = some [(Value.int .u64 0), (Value.int .u64 0), (Value.int .u32 0), (Value.int .u8 0), (Value.int .u8 0), (Value.int .u8 0), (Value.int .u8 0), Value.nilFunc, (Value.pointer none), (Value.int .i32 0), (Value.int .i32 0)] := by kernel_rfl
theorem tz202 : tZ Try.prog 202 = some [(Value.int .u64 0), (Value.int .u64 0), (Value.int .u32 0), (Value.int .u8 0), (Value.int .u8 0), (Value.int .u8 0), (Value.int .u8 0), Value.nilFunc, (Value.pointer none), (Value.int .i32 0), (Value.int .i32 0)] := by kernel_rfl
theorem ut2 : Try.prog.underlying 2 = some (.int .i64) := by kernel_rfl
theorem ut3 : Try.prog.underlying 3 = some (.int .i64) := by kernel_rfl
theorem ut4 : Try.prog.underlying 4 = some .bool := by kernel_rfl
theorem ut5 : Try.prog.underlying 5 = some (.int .u8) := by kernel_rfl
theorem ut6 : Try.prog.underlying 6 = some (.int .u8) := by kernel_rfl
theorem ut9 : Try.prog.underlying 9 = some .string := by kernel_rfl
theorem ut10 : Try.prog.underlying 10 = some .string := by kernel_rfl
theorem ut11 : Try.prog.underlying 11 = some .string := by kernel_rfl
theorem ut12 : Try.prog.underlying 12 = some (.int .u64) := by kernel_rfl
theorem ut21 : Try.prog.underlying 21 = some (.int .i32) := by kernel_rfl
theorem ut22 : Try.prog.underlying 22 = some (.slice 126) := by kernel_rfl
theorem ut25 : Try.prog.underlying 25 = some (.slice 64) := by kernel_rfl
theorem ut26 : Try.prog.underlying 26 = some (.slice 55) := by kernel_rfl
theorem ut35 : Try.prog.underlying 35 = some (.int .i64) := by kernel_rfl
theorem ut50 : Try.prog.underlying 50 = some (.int .u32) := by kernel_rfl
theorem ut57 : Try.prog.underlying 57 = some (.slice 3) := by kernel_rfl
theorem ut62 : Try.prog.underlying 62 = some (.slice 61) := by kernel_rfl
theorem ut67 : Try.prog.underlying 67 = some (.slice 30) := by kernel_rfl
theorem ut70 : Try.prog.underlying 70 = some (.int .u16) := by kernel_rfl
theorem ut74 : Try.prog.underlying 74 = some (.slice 28) := by kernel_rfl
theorem ut81 : Try.prog.underlying 81 = some (.slice 34) := by kernel_rfl
theorem ut127 : Try.prog.underlying 127 = some (.map 3 4) := by kernel_rfl
theorem ut138 : Try.prog.underlying 138 = some (.slice 111) := by kernel_rfl
theorem ut139 : Try.prog.underlying 139 = some (.slice 143) := by kernel_rfl
theorem ut140 : Try.prog.underlying 140 = some (.slice 144) := by kernel_rfl
theorem ut143 : Try.prog.underlying 143 = some (.map 3 34) := by kernel_rfl
theorem ut144 : Try.prog.underlying 144 = some (.map 146 3) := by kernel_rfl
theorem ut151 : Try.prog.underlying 151 = some (.slice 53) := by kernel_rfl
theorem ut159 : Try.prog.underlying 159 = some (.int .u64) := by kernel_rfl
theorem ut168 : Try.prog.underlying 168 = some (.int .i64) := by kernel_rfl
theorem ut177 : Try.prog.underlying 177 = some (.int .u64) := by kernel_rfl
theorem ut180 : Try.prog.underlying 180 = some (.int .u64) := by kernel_rfl
theorem ut195 : Try.prog.underlying 195 = some (.int .u8) := by kernel_rfl
theorem ut196 : Try.prog.underlying 196 = some (.int .u8) := by kernel_rfl
theorem ut199 : Try.prog.underlying 199 = some (.int .i32) := by kernel_rfl
theorem ut200 : Try.prog.underlying 200 = some (.int .i32) := by kernel_rfl
theorem fl34 : fL Try.prog 34 = some [(3, 0), (3, 1)] := by kernel_rfl
theorem eqI34 (d : Nat) (s z : SpanV) (w : World) : (Op.equalIn (d + 2) 34 (.agg s.cells.toArray) (.agg z.cells.toArray)).run Try.prog w = .ok (decide (s = z)) w := by
  have hc : (decide (s.Lo = z.Lo) && (decide (s.Hi = z.Hi) && true)) = decide (s = z) := by rw [Bool.eq_iff_iff]; simp [SpanV.ext_iff]
  rw [← hc]
  exact eqI_struct (d + 1) fl34 w (eqf_cons w (part_one tk3 rfl w) (part_one tk3 rfl w) (eqI_int _ ut3 w) (eqf_cons w (part_one tk3 rfl w) (part_one tk3 rfl w) (eqI_int _ ut3 w) (eqf_nil w)))
theorem eqs34 (x y : Operand) (s z : SpanV) : BinRun Try.prog .eql 34 x y (.agg s.cells.toArray) (.agg z.cells.toArray) (.bool (decide (s = z))) := eq_struct x y (fL_guard fl34) fun w => eqI34 9998 s z w
theorem nes34 (x y : Operand) (s z : SpanV) : BinRun Try.prog .neq 34 x y (.agg s.cells.toArray) (.agg z.cells.toArray) (.bool (!decide (s = z))) := ne_struct x y (fL_guard fl34) fun w => eqI34 9998 s z w
theorem fl126 : fL Try.prog 126 = some [(3, 0), (34, 1), (34, 3), (34, 5), (5, 7), (3, 8)] := by kernel_rfl
theorem eqI126 (d : Nat) (s z : StretchV) (w : World) : (Op.equalIn (d + 3) 126 (.agg s.cells.toArray) (.agg z.cells.toArray)).run Try.prog w = .ok (decide (s = z)) w := by
  have hc : (decide (s.Id = z.Id) && (decide (s.Long = z.Long) && (decide (s.Fall = z.Fall) && (decide (s.Radius = z.Radius) && (decide (s.Side = z.Side) && (decide (s.Wall = z.Wall) && true)))))) = decide (s = z) := by rw [Bool.eq_iff_iff]; simp [StretchV.ext_iff]
  rw [← hc]
  exact eqI_struct (d + 2) fl126 w (eqf_cons w (part_one tk3 rfl w) (part_one tk3 rfl w) (eqI_int _ ut3 w) (eqf_cons w (part_agg (vs := SpanV.cells s.Long) tk34 rfl w) (part_agg (vs := SpanV.cells z.Long) tk34 rfl w) (eqI34 (d + 0) s.Long z.Long w) (eqf_cons w (part_agg (vs := SpanV.cells s.Fall) tk34 rfl w) (part_agg (vs := SpanV.cells z.Fall) tk34 rfl w) (eqI34 (d + 0) s.Fall z.Fall w) (eqf_cons w (part_agg (vs := SpanV.cells s.Radius) tk34 rfl w) (part_agg (vs := SpanV.cells z.Radius) tk34 rfl w) (eqI34 (d + 0) s.Radius z.Radius w) (eqf_cons w (part_one tk5 rfl w) (part_one tk5 rfl w) (eqI_int _ ut5 w) (eqf_cons w (part_one tk3 rfl w) (part_one tk3 rfl w) (eqI_int _ ut3 w) (eqf_nil w)))))))
theorem eqs126 (x y : Operand) (s z : StretchV) : BinRun Try.prog .eql 126 x y (.agg s.cells.toArray) (.agg z.cells.toArray) (.bool (decide (s = z))) := eq_struct x y (fL_guard fl126) fun w => eqI126 9997 s z w
theorem nes126 (x y : Operand) (s z : StretchV) : BinRun Try.prog .neq 126 x y (.agg s.cells.toArray) (.agg z.cells.toArray) (.bool (!decide (s = z))) := ne_struct x y (fL_guard fl126) fun w => eqI126 9997 s z w
theorem fl30 : fL Try.prog 30 = some [(3, 0), (3, 1)] := by kernel_rfl
theorem eqI30 (d : Nat) (s z : SignalV) (w : World) : (Op.equalIn (d + 2) 30 (.agg s.cells.toArray) (.agg z.cells.toArray)).run Try.prog w = .ok (decide (s = z)) w := by
  have hc : (decide (s.Beam = z.Beam) && (decide (s.Read = z.Read) && true)) = decide (s = z) := by rw [Bool.eq_iff_iff]; simp [SignalV.ext_iff]
  rw [← hc]
  exact eqI_struct (d + 1) fl30 w (eqf_cons w (part_one tk3 rfl w) (part_one tk3 rfl w) (eqI_int _ ut3 w) (eqf_cons w (part_one tk3 rfl w) (part_one tk3 rfl w) (eqI_int _ ut3 w) (eqf_nil w)))
theorem eqs30 (x y : Operand) (s z : SignalV) : BinRun Try.prog .eql 30 x y (.agg s.cells.toArray) (.agg z.cells.toArray) (.bool (decide (s = z))) := eq_struct x y (fL_guard fl30) fun w => eqI30 9998 s z w
theorem nes30 (x y : Operand) (s z : SignalV) : BinRun Try.prog .neq 30 x y (.agg s.cells.toArray) (.agg z.cells.toArray) (.bool (!decide (s = z))) := ne_struct x y (fL_guard fl30) fun w => eqI30 9998 s z w
theorem fl53 : fL Try.prog 53 = some [(3, 0), (34, 1)] := by kernel_rfl
theorem eqI53 (d : Nat) (s z : SpotV) (w : World) : (Op.equalIn (d + 3) 53 (.agg s.cells.toArray) (.agg z.cells.toArray)).run Try.prog w = .ok (decide (s = z)) w := by
  have hc : (decide (s.Stretch = z.Stretch) && (decide (s.Off = z.Off) && true)) = decide (s = z) := by rw [Bool.eq_iff_iff]; simp [SpotV.ext_iff]
  rw [← hc]
  exact eqI_struct (d + 2) fl53 w (eqf_cons w (part_one tk3 rfl w) (part_one tk3 rfl w) (eqI_int _ ut3 w) (eqf_cons w (part_agg (vs := SpanV.cells s.Off) tk34 rfl w) (part_agg (vs := SpanV.cells z.Off) tk34 rfl w) (eqI34 (d + 0) s.Off z.Off w) (eqf_nil w)))
theorem eqs53 (x y : Operand) (s z : SpotV) : BinRun Try.prog .eql 53 x y (.agg s.cells.toArray) (.agg z.cells.toArray) (.bool (decide (s = z))) := eq_struct x y (fL_guard fl53) fun w => eqI53 9997 s z w
theorem nes53 (x y : Operand) (s z : SpotV) : BinRun Try.prog .neq 53 x y (.agg s.cells.toArray) (.agg z.cells.toArray) (.bool (!decide (s = z))) := ne_struct x y (fL_guard fl53) fun w => eqI53 9997 s z w
theorem fl55 : fL Try.prog 55 = some [(53, 0), (3, 3)] := by kernel_rfl
theorem eqI55 (d : Nat) (s z : BeamV) (w : World) : (Op.equalIn (d + 4) 55 (.agg s.cells.toArray) (.agg z.cells.toArray)).run Try.prog w = .ok (decide (s = z)) w := by
  have hc : (decide (s.Spot = z.Spot) && (decide (s.Clock = z.Clock) && true)) = decide (s = z) := by rw [Bool.eq_iff_iff]; simp [BeamV.ext_iff]
  rw [← hc]
  exact eqI_struct (d + 3) fl55 w (eqf_cons w (part_agg (vs := SpotV.cells s.Spot) tk53 rfl w) (part_agg (vs := SpotV.cells z.Spot) tk53 rfl w) (eqI53 (d + 0) s.Spot z.Spot w) (eqf_cons w (part_one tk3 rfl w) (part_one tk3 rfl w) (eqI_int _ ut3 w) (eqf_nil w)))
theorem eqs55 (x y : Operand) (s z : BeamV) : BinRun Try.prog .eql 55 x y (.agg s.cells.toArray) (.agg z.cells.toArray) (.bool (decide (s = z))) := eq_struct x y (fL_guard fl55) fun w => eqI55 9996 s z w
theorem nes55 (x y : Operand) (s z : BeamV) : BinRun Try.prog .neq 55 x y (.agg s.cells.toArray) (.agg z.cells.toArray) (.bool (!decide (s = z))) := ne_struct x y (fL_guard fl55) fun w => eqI55 9996 s z w
theorem fl61 : fL Try.prog 61 = some [(3, 0), (34, 1)] := by kernel_rfl
theorem eqI61 (d : Nat) (s z : SyncV) (w : World) : (Op.equalIn (d + 3) 61 (.agg s.cells.toArray) (.agg z.cells.toArray)).run Try.prog w = .ok (decide (s = z)) w := by
  have hc : (decide (s.At = z.At) && (decide (s.Ahead = z.Ahead) && true)) = decide (s = z) := by rw [Bool.eq_iff_iff]; simp [SyncV.ext_iff]
  rw [← hc]
  exact eqI_struct (d + 2) fl61 w (eqf_cons w (part_one tk3 rfl w) (part_one tk3 rfl w) (eqI_int _ ut3 w) (eqf_cons w (part_agg (vs := SpanV.cells s.Ahead) tk34 rfl w) (part_agg (vs := SpanV.cells z.Ahead) tk34 rfl w) (eqI34 (d + 0) s.Ahead z.Ahead w) (eqf_nil w)))
theorem eqs61 (x y : Operand) (s z : SyncV) : BinRun Try.prog .eql 61 x y (.agg s.cells.toArray) (.agg z.cells.toArray) (.bool (decide (s = z))) := eq_struct x y (fL_guard fl61) fun w => eqI61 9997 s z w
theorem nes61 (x y : Operand) (s z : SyncV) : BinRun Try.prog .neq 61 x y (.agg s.cells.toArray) (.agg z.cells.toArray) (.bool (!decide (s = z))) := ne_struct x y (fL_guard fl61) fun w => eqI61 9997 s z w
theorem mixed : Try.prog.follows .mixedOrders = true := by kernel_rfl
end Go.Proofs.Ytaehngpnlkokkaa
