/-
  Facts on the program tables.
-/
import Derived.Test.YtpbgdeojcefnmaaProg
import Derived.Test.YtpbgdeojcefnmaaDraw
import Derived.Test.YtpbgdeojcefnmaaPlain
import Derived.KernelRfl
namespace Go.Proofs.Ytpbgdeojcefnmaa
theorem tk1 : tK Try.prog 1 = some (false, 1) := by kernel_rfl
theorem tk2 : tK Try.prog 2 = some (false, 1) := by kernel_rfl
theorem tk3 : tK Try.prog 3 = some (false, 1) := by kernel_rfl
theorem tk4 : tK Try.prog 4 = some (false, 1) := by kernel_rfl
theorem tk5 : tK Try.prog 5 = some (false, 1) := by kernel_rfl
theorem tk6 : tK Try.prog 6 = some (false, 1) := by kernel_rfl
theorem tk7 : tK Try.prog 7 = some (true, 4) := by kernel_rfl
theorem tk8 : tK Try.prog 8 = some (true, 4) := by kernel_rfl
theorem tk12 : tK Try.prog 12 = some (false, 1) := by kernel_rfl
theorem tk15 : tK Try.prog 15 = some (false, 1) := by kernel_rfl
theorem tk16 : tK Try.prog 16 = some (false, 1) := by kernel_rfl
theorem tk17 : tK Try.prog 17 = some (false, 1) := by kernel_rfl
theorem tk18 : tK Try.prog 18 = some (true, 1) := by kernel_rfl
theorem tk19 : tK Try.prog 19 = some (true, 1) := by kernel_rfl
theorem tk21 : tK Try.prog 21 = some (false, 1) := by kernel_rfl
theorem tk22 : tK Try.prog 22 = some (false, 1) := by kernel_rfl
theorem tk23 : tK Try.prog 23 = some (true, 1) := by kernel_rfl
theorem tk24 : tK Try.prog 24 = some (true, 1) := by kernel_rfl
theorem tk25 : tK Try.prog 25 = some (true, 2) := by kernel_rfl
theorem tk26 : tK Try.prog 26 = some (true, 2) := by kernel_rfl
theorem tk27 : tK Try.prog 27 = some (true, 11) := by kernel_rfl
theorem tk28 : tK Try.prog 28 = some (true, 11) := by kernel_rfl
theorem tk29 : tK Try.prog 29 = some (false, 1) := by kernel_rfl
theorem tk30 : tK Try.prog 30 = some (false, 1) := by kernel_rfl
theorem tk31 : tK Try.prog 31 = some (false, 1) := by kernel_rfl
theorem tk32 : tK Try.prog 32 = some (false, 1) := by kernel_rfl
theorem tk34 : tK Try.prog 34 = some (false, 1) := by kernel_rfl
theorem tk36 : tK Try.prog 36 = some (false, 1) := by kernel_rfl
theorem tk38 : tK Try.prog 38 = some (false, 1) := by kernel_rfl
theorem tk40 : tK Try.prog 40 = some (false, 1) := by kernel_rfl
theorem tk42 : tK Try.prog 42 = some (false, 1) := by kernel_rfl
theorem tk44 : tK Try.prog 44 = some (false, 1) := by kernel_rfl
theorem tk45 : tK Try.prog 45 = some (false, 1) := by kernel_rfl
theorem tk46 : tK Try.prog 46 = some (false, 1) := by kernel_rfl
theorem tk47 : tK Try.prog 47 = some (false, 1) := by kernel_rfl
theorem tk48 : tK Try.prog 48 = some (false, 1) := by kernel_rfl
theorem tk49 : tK Try.prog 49 = some (false, 1) := by kernel_rfl
theorem tk50 : tK Try.prog 50 = some (false, 1) := by kernel_rfl
theorem tk52 : tK Try.prog 52 = some (false, 1) := by kernel_rfl
theorem tk54 : tK Try.prog 54 = some (false, 1) := by kernel_rfl
theorem tk56 : tK Try.prog 56 = some (false, 1) := by kernel_rfl
theorem tk58 : tK Try.prog 58 = some (false, 1) := by kernel_rfl
theorem tk59 : tK Try.prog 59 = some (false, 1) := by kernel_rfl
theorem tk60 : tK Try.prog 60 = some (false, 1) := by kernel_rfl
theorem tk61 : tK Try.prog 61 = some (false, 1) := by kernel_rfl
theorem tk63 : tK Try.prog 63 = some (false, 1) := by kernel_rfl
theorem tk65 : tK Try.prog 65 = some (false, 1) := by kernel_rfl
theorem tk66 : tK Try.prog 66 = some (false, 1) := by kernel_rfl
theorem tk67 : tK Try.prog 67 = some (false, 1) := by kernel_rfl
theorem tk68 : tK Try.prog 68 = some (false, 1) := by kernel_rfl
theorem tk69 : tK Try.prog 69 = some (false, 1) := by kernel_rfl
theorem tk70 : tK Try.prog 70 = some (false, 1) := by kernel_rfl
theorem tk71 : tK Try.prog 71 = some (false, 1) := by kernel_rfl
theorem tk72 : tK Try.prog 72 = some (false, 1) := by kernel_rfl
theorem tk74 : tK Try.prog 74 = some (false, 1) := by kernel_rfl
theorem tk75 : tK Try.prog 75 = some (false, 1) := by kernel_rfl
theorem tk76 : tK Try.prog 76 = some (true, 9) := by kernel_rfl
theorem tk77 : tK Try.prog 77 = some (true, 9) := by kernel_rfl
theorem tk78 : tK Try.prog 78 = some (false, 1) := by kernel_rfl
theorem tk80 : tK Try.prog 80 = some (false, 1) := by kernel_rfl
theorem tk81 : tK Try.prog 81 = some (false, 1) := by kernel_rfl
theorem tk82 : tK Try.prog 82 = some (false, 1) := by kernel_rfl
theorem tk83 : tK Try.prog 83 = some (false, 1) := by kernel_rfl
theorem tk84 : tK Try.prog 84 = some (false, 1) := by kernel_rfl
theorem tk85 : tK Try.prog 85 = some (false, 1) := by kernel_rfl
theorem tk86 : tK Try.prog 86 = some (false, 1) := by kernel_rfl
theorem tk87 : tK Try.prog 87 = some (false, 1) := by kernel_rfl
theorem tk88 : tK Try.prog 88 = some (false, 1) := by kernel_rfl
theorem tk89 : tK Try.prog 89 = some (false, 1) := by kernel_rfl
theorem tk90 : tK Try.prog 90 = some (false, 1) := by kernel_rfl
theorem tk91 : tK Try.prog 91 = some (false, 1) := by kernel_rfl
theorem tk93 : tK Try.prog 93 = some (false, 1) := by kernel_rfl
theorem tk94 : tK Try.prog 94 = some (false, 1) := by kernel_rfl
theorem tk95 : tK Try.prog 95 = some (false, 1) := by kernel_rfl
theorem tk96 : tK Try.prog 96 = some (false, 1) := by kernel_rfl
theorem tk97 : tK Try.prog 97 = some (false, 1) := by kernel_rfl
theorem tk99 : tK Try.prog 99 = some (false, 1) := by kernel_rfl
theorem tk100 : tK Try.prog 100 = some (false, 1) := by kernel_rfl
theorem tk101 : tK Try.prog 101 = some (false, 1) := by kernel_rfl
theorem tk102 : tK Try.prog 102 = some (false, 1) := by kernel_rfl
theorem tk103 : tK Try.prog 103 = some (false, 1) := by kernel_rfl
theorem tk104 : tK Try.prog 104 = some (false, 1) := by kernel_rfl
theorem tk105 : tK Try.prog 105 = some (false, 1) := by kernel_rfl
theorem tk106 : tK Try.prog 106 = some (false, 1) := by kernel_rfl
theorem tk107 : tK Try.prog 107 = some (true, 13) := by kernel_rfl
theorem tk108 : tK Try.prog 108 = some (true, 13) := by kernel_rfl
theorem tk110 : tK Try.prog 110 = some (false, 1) := by kernel_rfl
theorem tk111 : tK Try.prog 111 = some (false, 1) := by kernel_rfl
theorem tk112 : tK Try.prog 112 = some (false, 1) := by kernel_rfl
theorem tk113 : tK Try.prog 113 = some (false, 1) := by kernel_rfl
theorem tk114 : tK Try.prog 114 = some (false, 1) := by kernel_rfl
theorem tk115 : tK Try.prog 115 = some (false, 1) := by kernel_rfl
theorem tk116 : tK Try.prog 116 = some (false, 1) := by kernel_rfl
theorem tk117 : tK Try.prog 117 = some (false, 1) := by kernel_rfl
theorem tk118 : tK Try.prog 118 = some (false, 1) := by kernel_rfl
theorem tk120 : tK Try.prog 120 = some (false, 1) := by kernel_rfl
theorem tk121 : tK Try.prog 121 = some (false, 1) := by kernel_rfl
theorem tk122 : tK Try.prog 122 = some (false, 1) := by kernel_rfl
theorem tk123 : tK Try.prog 123 = some (false, 1) := by kernel_rfl
theorem tk124 : tK Try.prog 124 = some (false, 1) := by kernel_rfl
theorem tk125 : tK Try.prog 125 = some (false, 1) := by kernel_rfl
theorem tk126 : tK Try.prog 126 = some (false, 1) := by kernel_rfl
theorem tk127 : tK Try.prog 127 = some (false, 1) := by kernel_rfl
theorem tk128 : tK Try.prog 128 = some (false, 1) := by kernel_rfl
theorem tk129 : tK Try.prog 129 = some (false, 1) := by kernel_rfl
theorem tk130 : tK Try.prog 130 = some (false, 1) := by kernel_rfl
theorem tk131 : tK Try.prog 131 = some (false, 1) := by kernel_rfl
theorem tk132 : tK Try.prog 132 = some (false, 1) := by kernel_rfl
theorem tk133 : tK Try.prog 133 = some (false, 1) := by kernel_rfl
theorem tk134 : tK Try.prog 134 = some (false, 1) := by kernel_rfl
theorem tk135 : tK Try.prog 135 = some (true, 1) := by kernel_rfl
theorem tk136 : tK Try.prog 136 = some (true, 1) := by kernel_rfl
theorem tk138 : tK Try.prog 138 = some (false, 1) := by kernel_rfl
theorem tk139 : tK Try.prog 139 = some (false, 1) := by kernel_rfl
theorem tk141 : tK Try.prog 141 = some (false, 1) := by kernel_rfl
theorem tk142 : tK Try.prog 142 = some (true, 5) := by kernel_rfl
theorem tk143 : tK Try.prog 143 = some (true, 5) := by kernel_rfl
theorem tk144 : tK Try.prog 144 = some (false, 1) := by kernel_rfl
theorem tk146 : tK Try.prog 146 = some (false, 1) := by kernel_rfl
theorem tk148 : tK Try.prog 148 = some (false, 1) := by kernel_rfl
theorem tk149 : tK Try.prog 149 = some (false, 1) := by kernel_rfl
theorem tk150 : tK Try.prog 150 = some (false, 1) := by kernel_rfl
theorem tk151 : tK Try.prog 151 = some (true, 1) := by kernel_rfl
theorem tk152 : tK Try.prog 152 = some (true, 2) := by kernel_rfl
theorem tk153 : tK Try.prog 153 = some (false, 1) := by kernel_rfl
theorem tk154 : tK Try.prog 154 = some (false, 1) := by kernel_rfl
theorem tk155 : tK Try.prog 155 = some (false, 1) := by kernel_rfl
theorem tk156 : tK Try.prog 156 = some (false, 1) := by kernel_rfl
theorem tk157 : tK Try.prog 157 = some (false, 1) := by kernel_rfl
theorem tk158 : tK Try.prog 158 = some (false, 1) := by kernel_rfl
theorem tk159 : tK Try.prog 159 = some (false, 1) := by kernel_rfl
theorem tk160 : tK Try.prog 160 = some (false, 1) := by kernel_rfl
theorem tk161 : tK Try.prog 161 = some (false, 1) := by kernel_rfl
theorem tk162 : tK Try.prog 162 = some (false, 1) := by kernel_rfl
theorem tk163 : tK Try.prog 163 = some (false, 1) := by kernel_rfl
theorem tk164 : tK Try.prog 164 = some (false, 1) := by kernel_rfl
theorem tk165 : tK Try.prog 165 = some (false, 1) := by kernel_rfl
theorem tk166 : tK Try.prog 166 = some (false, 1) := by kernel_rfl
theorem tk167 : tK Try.prog 167 = some (false, 1) := by kernel_rfl
theorem tk168 : tK Try.prog 168 = some (false, 1) := by kernel_rfl
theorem tk169 : tK Try.prog 169 = some (false, 1) := by kernel_rfl
theorem tk170 : tK Try.prog 170 = some (true, 1) := by kernel_rfl
theorem tk171 : tK Try.prog 171 = some (true, 1) := by kernel_rfl
theorem tk172 : tK Try.prog 172 = some (true, 3) := by kernel_rfl
theorem tk173 : tK Try.prog 173 = some (false, 1) := by kernel_rfl
theorem tk174 : tK Try.prog 174 = some (true, 13) := by kernel_rfl
theorem tk175 : tK Try.prog 175 = some (true, 169) := by kernel_rfl
theorem tk176 : tK Try.prog 176 = some (true, 169) := by kernel_rfl
theorem tk177 : tK Try.prog 177 = some (false, 1) := by kernel_rfl
theorem tk178 : tK Try.prog 178 = some (false, 1) := by kernel_rfl
theorem tk179 : tK Try.prog 179 = some (false, 1) := by kernel_rfl
theorem tk180 : tK Try.prog 180 = some (false, 1) := by kernel_rfl
theorem tk181 : tK Try.prog 181 = some (false, 1) := by kernel_rfl
theorem tk182 : tK Try.prog 182 = some (false, 1) := by kernel_rfl
theorem tk183 : tK Try.prog 183 = some (false, 1) := by kernel_rfl
theorem tk184 : tK Try.prog 184 = some (false, 1) := by kernel_rfl
theorem tk185 : tK Try.prog 185 = some (false, 1) := by kernel_rfl
theorem tk186 : tK Try.prog 186 = some (false, 1) := by kernel_rfl
theorem tk188 : tK Try.prog 188 = some (false, 1) := by kernel_rfl
theorem tk189 : tK Try.prog 189 = some (false, 1) := by kernel_rfl
theorem tk190 : tK Try.prog 190 = some (false, 1) := by kernel_rfl
theorem tk191 : tK Try.prog 191 = some (false, 1) := by kernel_rfl
theorem tk192 : tK Try.prog 192 = some (false, 1) := by kernel_rfl
theorem tk193 : tK Try.prog 193 = some (false, 1) := by kernel_rfl
theorem tk194 : tK Try.prog 194 = some (false, 1) := by kernel_rfl
theorem tk195 : tK Try.prog 195 = some (false, 1) := by kernel_rfl
theorem tk196 : tK Try.prog 196 = some (false, 1) := by kernel_rfl
theorem tk197 : tK Try.prog 197 = some (false, 1) := by kernel_rfl
theorem tk198 : tK Try.prog 198 = some (false, 1) := by kernel_rfl
theorem tk199 : tK Try.prog 199 = some (false, 1) := by kernel_rfl
theorem tk200 : tK Try.prog 200 = some (false, 1) := by kernel_rfl
theorem tk201 : tK Try.prog 201 = some (false, 1) := by kernel_rfl
theorem tk202 : tK Try.prog 202 = some (false, 1) := by kernel_rfl
theorem tk203 : tK Try.prog 203 = some (false, 1) := by kernel_rfl
theorem tk206 : tK Try.prog 206 = some (true, 0) := by kernel_rfl
theorem tk207 : tK Try.prog 207 = some (true, 0) := by kernel_rfl
theorem tk208 : tK Try.prog 208 = some (true, 0) := by kernel_rfl
theorem tk209 : tK Try.prog 209 = some (false, 1) := by kernel_rfl
theorem tk210 : tK Try.prog 210 = some (false, 1) := by kernel_rfl
theorem tk211 : tK Try.prog 211 = some (false, 1) := by kernel_rfl
theorem tk212 : tK Try.prog 212 = some (false, 1) := by kernel_rfl
theorem tk213 : tK Try.prog 213 = some (false, 1) := by kernel_rfl
theorem tk214 : tK Try.prog 214 = some (false, 1) := by kernel_rfl
theorem tk215 : tK Try.prog 215 = some (false, 1) := by kernel_rfl
theorem tk216 : tK Try.prog 216 = some (true, 11) := by kernel_rfl
theorem tk217 : tK Try.prog 217 = some (true, 11) := by kernel_rfl
theorem ts1 : (tK Try.prog 1).map (·.2) = some 1 := by rw [tk1]; rfl
theorem ts2 : (tK Try.prog 2).map (·.2) = some 1 := by rw [tk2]; rfl
theorem ts3 : (tK Try.prog 3).map (·.2) = some 1 := by rw [tk3]; rfl
theorem ts4 : (tK Try.prog 4).map (·.2) = some 1 := by rw [tk4]; rfl
theorem ts5 : (tK Try.prog 5).map (·.2) = some 1 := by rw [tk5]; rfl
theorem ts6 : (tK Try.prog 6).map (·.2) = some 1 := by rw [tk6]; rfl
theorem ts7 : (tK Try.prog 7).map (·.2) = some 4 := by rw [tk7]; rfl
theorem ts8 : (tK Try.prog 8).map (·.2) = some 4 := by rw [tk8]; rfl
theorem ts12 : (tK Try.prog 12).map (·.2) = some 1 := by rw [tk12]; rfl
theorem ts15 : (tK Try.prog 15).map (·.2) = some 1 := by rw [tk15]; rfl
theorem ts16 : (tK Try.prog 16).map (·.2) = some 1 := by rw [tk16]; rfl
theorem ts17 : (tK Try.prog 17).map (·.2) = some 1 := by rw [tk17]; rfl
theorem ts18 : (tK Try.prog 18).map (·.2) = some 1 := by rw [tk18]; rfl
theorem ts19 : (tK Try.prog 19).map (·.2) = some 1 := by rw [tk19]; rfl
theorem ts21 : (tK Try.prog 21).map (·.2) = some 1 := by rw [tk21]; rfl
theorem ts22 : (tK Try.prog 22).map (·.2) = some 1 := by rw [tk22]; rfl
theorem ts23 : (tK Try.prog 23).map (·.2) = some 1 := by rw [tk23]; rfl
theorem ts24 : (tK Try.prog 24).map (·.2) = some 1 := by rw [tk24]; rfl
theorem ts25 : (tK Try.prog 25).map (·.2) = some 2 := by rw [tk25]; rfl
theorem ts26 : (tK Try.prog 26).map (·.2) = some 2 := by rw [tk26]; rfl
theorem ts27 : (tK Try.prog 27).map (·.2) = some 11 := by rw [tk27]; rfl
theorem ts28 : (tK Try.prog 28).map (·.2) = some 11 := by rw [tk28]; rfl
theorem ts29 : (tK Try.prog 29).map (·.2) = some 1 := by rw [tk29]; rfl
theorem ts30 : (tK Try.prog 30).map (·.2) = some 1 := by rw [tk30]; rfl
theorem ts31 : (tK Try.prog 31).map (·.2) = some 1 := by rw [tk31]; rfl
theorem ts32 : (tK Try.prog 32).map (·.2) = some 1 := by rw [tk32]; rfl
theorem ts34 : (tK Try.prog 34).map (·.2) = some 1 := by rw [tk34]; rfl
theorem ts36 : (tK Try.prog 36).map (·.2) = some 1 := by rw [tk36]; rfl
theorem ts38 : (tK Try.prog 38).map (·.2) = some 1 := by rw [tk38]; rfl
theorem ts40 : (tK Try.prog 40).map (·.2) = some 1 := by rw [tk40]; rfl
theorem ts42 : (tK Try.prog 42).map (·.2) = some 1 := by rw [tk42]; rfl
theorem ts44 : (tK Try.prog 44).map (·.2) = some 1 := by rw [tk44]; rfl
theorem ts45 : (tK Try.prog 45).map (·.2) = some 1 := by rw [tk45]; rfl
theorem ts46 : (tK Try.prog 46).map (·.2) = some 1 := by rw [tk46]; rfl
theorem ts47 : (tK Try.prog 47).map (·.2) = some 1 := by rw [tk47]; rfl
theorem ts48 : (tK Try.prog 48).map (·.2) = some 1 := by rw [tk48]; rfl
theorem ts49 : (tK Try.prog 49).map (·.2) = some 1 := by rw [tk49]; rfl
theorem ts50 : (tK Try.prog 50).map (·.2) = some 1 := by rw [tk50]; rfl
theorem ts52 : (tK Try.prog 52).map (·.2) = some 1 := by rw [tk52]; rfl
theorem ts54 : (tK Try.prog 54).map (·.2) = some 1 := by rw [tk54]; rfl
theorem ts56 : (tK Try.prog 56).map (·.2) = some 1 := by rw [tk56]; rfl
theorem ts58 : (tK Try.prog 58).map (·.2) = some 1 := by rw [tk58]; rfl
theorem ts59 : (tK Try.prog 59).map (·.2) = some 1 := by rw [tk59]; rfl
theorem ts60 : (tK Try.prog 60).map (·.2) = some 1 := by rw [tk60]; rfl
theorem ts61 : (tK Try.prog 61).map (·.2) = some 1 := by rw [tk61]; rfl
theorem ts63 : (tK Try.prog 63).map (·.2) = some 1 := by rw [tk63]; rfl
theorem ts65 : (tK Try.prog 65).map (·.2) = some 1 := by rw [tk65]; rfl
theorem ts66 : (tK Try.prog 66).map (·.2) = some 1 := by rw [tk66]; rfl
theorem ts67 : (tK Try.prog 67).map (·.2) = some 1 := by rw [tk67]; rfl
theorem ts68 : (tK Try.prog 68).map (·.2) = some 1 := by rw [tk68]; rfl
theorem ts69 : (tK Try.prog 69).map (·.2) = some 1 := by rw [tk69]; rfl
theorem ts70 : (tK Try.prog 70).map (·.2) = some 1 := by rw [tk70]; rfl
theorem ts71 : (tK Try.prog 71).map (·.2) = some 1 := by rw [tk71]; rfl
theorem ts72 : (tK Try.prog 72).map (·.2) = some 1 := by rw [tk72]; rfl
theorem ts74 : (tK Try.prog 74).map (·.2) = some 1 := by rw [tk74]; rfl
theorem ts75 : (tK Try.prog 75).map (·.2) = some 1 := by rw [tk75]; rfl
theorem ts76 : (tK Try.prog 76).map (·.2) = some 9 := by rw [tk76]; rfl
theorem ts77 : (tK Try.prog 77).map (·.2) = some 9 := by rw [tk77]; rfl
theorem ts78 : (tK Try.prog 78).map (·.2) = some 1 := by rw [tk78]; rfl
theorem ts80 : (tK Try.prog 80).map (·.2) = some 1 := by rw [tk80]; rfl
theorem ts81 : (tK Try.prog 81).map (·.2) = some 1 := by rw [tk81]; rfl
theorem ts82 : (tK Try.prog 82).map (·.2) = some 1 := by rw [tk82]; rfl
theorem ts83 : (tK Try.prog 83).map (·.2) = some 1 := by rw [tk83]; rfl
theorem ts84 : (tK Try.prog 84).map (·.2) = some 1 := by rw [tk84]; rfl
theorem ts85 : (tK Try.prog 85).map (·.2) = some 1 := by rw [tk85]; rfl
theorem ts86 : (tK Try.prog 86).map (·.2) = some 1 := by rw [tk86]; rfl
theorem ts87 : (tK Try.prog 87).map (·.2) = some 1 := by rw [tk87]; rfl
theorem ts88 : (tK Try.prog 88).map (·.2) = some 1 := by rw [tk88]; rfl
theorem ts89 : (tK Try.prog 89).map (·.2) = some 1 := by rw [tk89]; rfl
theorem ts90 : (tK Try.prog 90).map (·.2) = some 1 := by rw [tk90]; rfl
theorem ts91 : (tK Try.prog 91).map (·.2) = some 1 := by rw [tk91]; rfl
theorem ts93 : (tK Try.prog 93).map (·.2) = some 1 := by rw [tk93]; rfl
theorem ts94 : (tK Try.prog 94).map (·.2) = some 1 := by rw [tk94]; rfl
theorem ts95 : (tK Try.prog 95).map (·.2) = some 1 := by rw [tk95]; rfl
theorem ts96 : (tK Try.prog 96).map (·.2) = some 1 := by rw [tk96]; rfl
theorem ts97 : (tK Try.prog 97).map (·.2) = some 1 := by rw [tk97]; rfl
theorem ts99 : (tK Try.prog 99).map (·.2) = some 1 := by rw [tk99]; rfl
theorem ts100 : (tK Try.prog 100).map (·.2) = some 1 := by rw [tk100]; rfl
theorem ts101 : (tK Try.prog 101).map (·.2) = some 1 := by rw [tk101]; rfl
theorem ts102 : (tK Try.prog 102).map (·.2) = some 1 := by rw [tk102]; rfl
theorem ts103 : (tK Try.prog 103).map (·.2) = some 1 := by rw [tk103]; rfl
theorem ts104 : (tK Try.prog 104).map (·.2) = some 1 := by rw [tk104]; rfl
theorem ts105 : (tK Try.prog 105).map (·.2) = some 1 := by rw [tk105]; rfl
theorem ts106 : (tK Try.prog 106).map (·.2) = some 1 := by rw [tk106]; rfl
theorem ts107 : (tK Try.prog 107).map (·.2) = some 13 := by rw [tk107]; rfl
theorem ts108 : (tK Try.prog 108).map (·.2) = some 13 := by rw [tk108]; rfl
theorem ts110 : (tK Try.prog 110).map (·.2) = some 1 := by rw [tk110]; rfl
theorem ts111 : (tK Try.prog 111).map (·.2) = some 1 := by rw [tk111]; rfl
theorem ts112 : (tK Try.prog 112).map (·.2) = some 1 := by rw [tk112]; rfl
theorem ts113 : (tK Try.prog 113).map (·.2) = some 1 := by rw [tk113]; rfl
theorem ts114 : (tK Try.prog 114).map (·.2) = some 1 := by rw [tk114]; rfl
theorem ts115 : (tK Try.prog 115).map (·.2) = some 1 := by rw [tk115]; rfl
theorem ts116 : (tK Try.prog 116).map (·.2) = some 1 := by rw [tk116]; rfl
theorem ts117 : (tK Try.prog 117).map (·.2) = some 1 := by rw [tk117]; rfl
theorem ts118 : (tK Try.prog 118).map (·.2) = some 1 := by rw [tk118]; rfl
theorem ts120 : (tK Try.prog 120).map (·.2) = some 1 := by rw [tk120]; rfl
theorem ts121 : (tK Try.prog 121).map (·.2) = some 1 := by rw [tk121]; rfl
theorem ts122 : (tK Try.prog 122).map (·.2) = some 1 := by rw [tk122]; rfl
theorem ts123 : (tK Try.prog 123).map (·.2) = some 1 := by rw [tk123]; rfl
theorem ts124 : (tK Try.prog 124).map (·.2) = some 1 := by rw [tk124]; rfl
theorem ts125 : (tK Try.prog 125).map (·.2) = some 1 := by rw [tk125]; rfl
theorem ts126 : (tK Try.prog 126).map (·.2) = some 1 := by rw [tk126]; rfl
theorem ts127 : (tK Try.prog 127).map (·.2) = some 1 := by rw [tk127]; rfl
theorem ts128 : (tK Try.prog 128).map (·.2) = some 1 := by rw [tk128]; rfl
theorem ts129 : (tK Try.prog 129).map (·.2) = some 1 := by rw [tk129]; rfl
theorem ts130 : (tK Try.prog 130).map (·.2) = some 1 := by rw [tk130]; rfl
theorem ts131 : (tK Try.prog 131).map (·.2) = some 1 := by rw [tk131]; rfl
theorem ts132 : (tK Try.prog 132).map (·.2) = some 1 := by rw [tk132]; rfl
theorem ts133 : (tK Try.prog 133).map (·.2) = some 1 := by rw [tk133]; rfl
theorem ts134 : (tK Try.prog 134).map (·.2) = some 1 := by rw [tk134]; rfl
theorem ts135 : (tK Try.prog 135).map (·.2) = some 1 := by rw [tk135]; rfl
theorem ts136 : (tK Try.prog 136).map (·.2) = some 1 := by rw [tk136]; rfl
theorem ts138 : (tK Try.prog 138).map (·.2) = some 1 := by rw [tk138]; rfl
theorem ts139 : (tK Try.prog 139).map (·.2) = some 1 := by rw [tk139]; rfl
theorem ts141 : (tK Try.prog 141).map (·.2) = some 1 := by rw [tk141]; rfl
theorem ts142 : (tK Try.prog 142).map (·.2) = some 5 := by rw [tk142]; rfl
theorem ts143 : (tK Try.prog 143).map (·.2) = some 5 := by rw [tk143]; rfl
theorem ts144 : (tK Try.prog 144).map (·.2) = some 1 := by rw [tk144]; rfl
theorem ts146 : (tK Try.prog 146).map (·.2) = some 1 := by rw [tk146]; rfl
theorem ts148 : (tK Try.prog 148).map (·.2) = some 1 := by rw [tk148]; rfl
theorem ts149 : (tK Try.prog 149).map (·.2) = some 1 := by rw [tk149]; rfl
theorem ts150 : (tK Try.prog 150).map (·.2) = some 1 := by rw [tk150]; rfl
theorem ts151 : (tK Try.prog 151).map (·.2) = some 1 := by rw [tk151]; rfl
theorem ts152 : (tK Try.prog 152).map (·.2) = some 2 := by rw [tk152]; rfl
theorem ts153 : (tK Try.prog 153).map (·.2) = some 1 := by rw [tk153]; rfl
theorem ts154 : (tK Try.prog 154).map (·.2) = some 1 := by rw [tk154]; rfl
theorem ts155 : (tK Try.prog 155).map (·.2) = some 1 := by rw [tk155]; rfl
theorem ts156 : (tK Try.prog 156).map (·.2) = some 1 := by rw [tk156]; rfl
theorem ts157 : (tK Try.prog 157).map (·.2) = some 1 := by rw [tk157]; rfl
theorem ts158 : (tK Try.prog 158).map (·.2) = some 1 := by rw [tk158]; rfl
theorem ts159 : (tK Try.prog 159).map (·.2) = some 1 := by rw [tk159]; rfl
theorem ts160 : (tK Try.prog 160).map (·.2) = some 1 := by rw [tk160]; rfl
theorem ts161 : (tK Try.prog 161).map (·.2) = some 1 := by rw [tk161]; rfl
theorem ts162 : (tK Try.prog 162).map (·.2) = some 1 := by rw [tk162]; rfl
theorem ts163 : (tK Try.prog 163).map (·.2) = some 1 := by rw [tk163]; rfl
theorem ts164 : (tK Try.prog 164).map (·.2) = some 1 := by rw [tk164]; rfl
theorem ts165 : (tK Try.prog 165).map (·.2) = some 1 := by rw [tk165]; rfl
theorem ts166 : (tK Try.prog 166).map (·.2) = some 1 := by rw [tk166]; rfl
theorem ts167 : (tK Try.prog 167).map (·.2) = some 1 := by rw [tk167]; rfl
theorem ts168 : (tK Try.prog 168).map (·.2) = some 1 := by rw [tk168]; rfl
theorem ts169 : (tK Try.prog 169).map (·.2) = some 1 := by rw [tk169]; rfl
theorem ts170 : (tK Try.prog 170).map (·.2) = some 1 := by rw [tk170]; rfl
theorem ts171 : (tK Try.prog 171).map (·.2) = some 1 := by rw [tk171]; rfl
theorem ts172 : (tK Try.prog 172).map (·.2) = some 3 := by rw [tk172]; rfl
theorem ts173 : (tK Try.prog 173).map (·.2) = some 1 := by rw [tk173]; rfl
theorem ts174 : (tK Try.prog 174).map (·.2) = some 13 := by rw [tk174]; rfl
theorem ts175 : (tK Try.prog 175).map (·.2) = some 169 := by rw [tk175]; rfl
theorem ts176 : (tK Try.prog 176).map (·.2) = some 169 := by rw [tk176]; rfl
theorem ts177 : (tK Try.prog 177).map (·.2) = some 1 := by rw [tk177]; rfl
theorem ts178 : (tK Try.prog 178).map (·.2) = some 1 := by rw [tk178]; rfl
theorem ts179 : (tK Try.prog 179).map (·.2) = some 1 := by rw [tk179]; rfl
theorem ts180 : (tK Try.prog 180).map (·.2) = some 1 := by rw [tk180]; rfl
theorem ts181 : (tK Try.prog 181).map (·.2) = some 1 := by rw [tk181]; rfl
theorem ts182 : (tK Try.prog 182).map (·.2) = some 1 := by rw [tk182]; rfl
theorem ts183 : (tK Try.prog 183).map (·.2) = some 1 := by rw [tk183]; rfl
theorem ts184 : (tK Try.prog 184).map (·.2) = some 1 := by rw [tk184]; rfl
theorem ts185 : (tK Try.prog 185).map (·.2) = some 1 := by rw [tk185]; rfl
theorem ts186 : (tK Try.prog 186).map (·.2) = some 1 := by rw [tk186]; rfl
theorem ts188 : (tK Try.prog 188).map (·.2) = some 1 := by rw [tk188]; rfl
theorem ts189 : (tK Try.prog 189).map (·.2) = some 1 := by rw [tk189]; rfl
theorem ts190 : (tK Try.prog 190).map (·.2) = some 1 := by rw [tk190]; rfl
theorem ts191 : (tK Try.prog 191).map (·.2) = some 1 := by rw [tk191]; rfl
theorem ts192 : (tK Try.prog 192).map (·.2) = some 1 := by rw [tk192]; rfl
theorem ts193 : (tK Try.prog 193).map (·.2) = some 1 := by rw [tk193]; rfl
theorem ts194 : (tK Try.prog 194).map (·.2) = some 1 := by rw [tk194]; rfl
theorem ts195 : (tK Try.prog 195).map (·.2) = some 1 := by rw [tk195]; rfl
theorem ts196 : (tK Try.prog 196).map (·.2) = some 1 := by rw [tk196]; rfl
theorem ts197 : (tK Try.prog 197).map (·.2) = some 1 := by rw [tk197]; rfl
theorem ts198 : (tK Try.prog 198).map (·.2) = some 1 := by rw [tk198]; rfl
theorem ts199 : (tK Try.prog 199).map (·.2) = some 1 := by rw [tk199]; rfl
theorem ts200 : (tK Try.prog 200).map (·.2) = some 1 := by rw [tk200]; rfl
theorem ts201 : (tK Try.prog 201).map (·.2) = some 1 := by rw [tk201]; rfl
theorem ts202 : (tK Try.prog 202).map (·.2) = some 1 := by rw [tk202]; rfl
theorem ts203 : (tK Try.prog 203).map (·.2) = some 1 := by rw [tk203]; rfl
theorem ts206 : (tK Try.prog 206).map (·.2) = some 0 := by rw [tk206]; rfl
theorem ts207 : (tK Try.prog 207).map (·.2) = some 0 := by rw [tk207]; rfl
theorem ts208 : (tK Try.prog 208).map (·.2) = some 0 := by rw [tk208]; rfl
theorem ts209 : (tK Try.prog 209).map (·.2) = some 1 := by rw [tk209]; rfl
theorem ts210 : (tK Try.prog 210).map (·.2) = some 1 := by rw [tk210]; rfl
theorem ts211 : (tK Try.prog 211).map (·.2) = some 1 := by rw [tk211]; rfl
theorem ts212 : (tK Try.prog 212).map (·.2) = some 1 := by rw [tk212]; rfl
theorem ts213 : (tK Try.prog 213).map (·.2) = some 1 := by rw [tk213]; rfl
theorem ts214 : (tK Try.prog 214).map (·.2) = some 1 := by rw [tk214]; rfl
theorem ts215 : (tK Try.prog 215).map (·.2) = some 1 := by rw [tk215]; rfl
theorem ts216 : (tK Try.prog 216).map (·.2) = some 11 := by rw [tk216]; rfl
theorem ts217 : (tK Try.prog 217).map (·.2) = some 11 := by rw [tk217]; rfl
theorem fo7_0 : fOff Try.prog 7 0 = some 0 := by kernel_rfl
theorem fo7_1 : fOff Try.prog 7 1 = some 1 := by kernel_rfl
theorem fo7_2 : fOff Try.prog 7 2 = some 2 := by kernel_rfl
theorem fo7_3 : fOff Try.prog 7 3 = some 3 := by kernel_rfl
theorem fo8_0 : fOff Try.prog 8 0 = some 0 := by kernel_rfl
theorem fo8_1 : fOff Try.prog 8 1 = some 1 := by kernel_rfl
theorem fo8_2 : fOff Try.prog 8 2 = some 2 := by kernel_rfl
theorem fo8_3 : fOff Try.prog 8 3 = some 3 := by kernel_rfl
theorem fo18_0 : fOff Try.prog 18 0 = some 0 := by kernel_rfl
theorem fo19_0 : fOff Try.prog 19 0 = some 0 := by kernel_rfl
theorem fo23_0 : fOff Try.prog 23 0 = some 0 := by kernel_rfl
theorem fo24_0 : fOff Try.prog 24 0 = some 0 := by kernel_rfl
theorem fo25_0 : fOff Try.prog 25 0 = some 0 := by kernel_rfl
theorem fo25_1 : fOff Try.prog 25 1 = some 1 := by kernel_rfl
theorem fo26_0 : fOff Try.prog 26 0 = some 0 := by kernel_rfl
theorem fo26_1 : fOff Try.prog 26 1 = some 1 := by kernel_rfl
theorem fo27_0 : fOff Try.prog 27 0 = some 0 := by kernel_rfl
theorem fo27_1 : fOff Try.prog 27 1 = some 1 := by kernel_rfl
theorem fo27_2 : fOff Try.prog 27 2 = some 3 := by kernel_rfl
theorem fo27_3 : fOff Try.prog 27 3 = some 5 := by kernel_rfl
theorem fo27_4 : fOff Try.prog 27 4 = some 7 := by kernel_rfl
theorem fo27_5 : fOff Try.prog 27 5 = some 9 := by kernel_rfl
theorem fo28_0 : fOff Try.prog 28 0 = some 0 := by kernel_rfl
theorem fo28_1 : fOff Try.prog 28 1 = some 1 := by kernel_rfl
theorem fo28_2 : fOff Try.prog 28 2 = some 3 := by kernel_rfl
theorem fo28_3 : fOff Try.prog 28 3 = some 5 := by kernel_rfl
theorem fo28_4 : fOff Try.prog 28 4 = some 7 := by kernel_rfl
theorem fo28_5 : fOff Try.prog 28 5 = some 9 := by kernel_rfl
theorem fo76_0 : fOff Try.prog 76 0 = some 0 := by kernel_rfl
theorem fo76_1 : fOff Try.prog 76 1 = some 1 := by kernel_rfl
theorem fo76_2 : fOff Try.prog 76 2 = some 3 := by kernel_rfl
theorem fo76_3 : fOff Try.prog 76 3 = some 5 := by kernel_rfl
theorem fo76_4 : fOff Try.prog 76 4 = some 7 := by kernel_rfl
theorem fo76_5 : fOff Try.prog 76 5 = some 8 := by kernel_rfl
theorem fo77_0 : fOff Try.prog 77 0 = some 0 := by kernel_rfl
theorem fo77_1 : fOff Try.prog 77 1 = some 1 := by kernel_rfl
theorem fo77_2 : fOff Try.prog 77 2 = some 3 := by kernel_rfl
theorem fo77_3 : fOff Try.prog 77 3 = some 5 := by kernel_rfl
theorem fo77_4 : fOff Try.prog 77 4 = some 7 := by kernel_rfl
theorem fo77_5 : fOff Try.prog 77 5 = some 8 := by kernel_rfl
theorem fo107_0 : fOff Try.prog 107 0 = some 0 := by kernel_rfl
theorem fo107_1 : fOff Try.prog 107 1 = some 11 := by kernel_rfl
theorem fo107_2 : fOff Try.prog 107 2 = some 12 := by kernel_rfl
theorem fo108_0 : fOff Try.prog 108 0 = some 0 := by kernel_rfl
theorem fo108_1 : fOff Try.prog 108 1 = some 11 := by kernel_rfl
theorem fo108_2 : fOff Try.prog 108 2 = some 12 := by kernel_rfl
theorem fo135_0 : fOff Try.prog 135 0 = some 0 := by kernel_rfl
theorem fo136_0 : fOff Try.prog 136 0 = some 0 := by kernel_rfl
theorem fo142_0 : fOff Try.prog 142 0 = some 0 := by kernel_rfl
theorem fo142_1 : fOff Try.prog 142 1 = some 1 := by kernel_rfl
theorem fo142_2 : fOff Try.prog 142 2 = some 2 := by kernel_rfl
theorem fo142_3 : fOff Try.prog 142 3 = some 3 := by kernel_rfl
theorem fo143_0 : fOff Try.prog 143 0 = some 0 := by kernel_rfl
theorem fo143_1 : fOff Try.prog 143 1 = some 1 := by kernel_rfl
theorem fo143_2 : fOff Try.prog 143 2 = some 2 := by kernel_rfl
theorem fo143_3 : fOff Try.prog 143 3 = some 3 := by kernel_rfl
theorem fo151_0 : fOff Try.prog 151 0 = some 0 := by kernel_rfl
theorem fo170_0 : fOff Try.prog 170 0 = some 0 := by kernel_rfl
theorem fo171_0 : fOff Try.prog 171 0 = some 0 := by kernel_rfl
theorem fo216_0 : fOff Try.prog 216 0 = some 0 := by kernel_rfl
theorem fo216_1 : fOff Try.prog 216 1 = some 1 := by kernel_rfl
theorem fo216_2 : fOff Try.prog 216 2 = some 2 := by kernel_rfl
theorem fo216_3 : fOff Try.prog 216 3 = some 3 := by kernel_rfl
theorem fo216_4 : fOff Try.prog 216 4 = some 4 := by kernel_rfl
theorem fo216_5 : fOff Try.prog 216 5 = some 5 := by kernel_rfl
theorem fo216_6 : fOff Try.prog 216 6 = some 6 := by kernel_rfl
theorem fo216_7 : fOff Try.prog 216 7 = some 7 := by kernel_rfl
theorem fo216_8 : fOff Try.prog 216 8 = some 8 := by kernel_rfl
theorem fo216_9 : fOff Try.prog 216 9 = some 9 := by kernel_rfl
theorem fo216_10 : fOff Try.prog 216 10 = some 10 := by kernel_rfl
theorem fo217_0 : fOff Try.prog 217 0 = some 0 := by kernel_rfl
theorem fo217_1 : fOff Try.prog 217 1 = some 1 := by kernel_rfl
theorem fo217_2 : fOff Try.prog 217 2 = some 2 := by kernel_rfl
theorem fo217_3 : fOff Try.prog 217 3 = some 3 := by kernel_rfl
theorem fo217_4 : fOff Try.prog 217 4 = some 4 := by kernel_rfl
theorem fo217_5 : fOff Try.prog 217 5 = some 5 := by kernel_rfl
theorem fo217_6 : fOff Try.prog 217 6 = some 6 := by kernel_rfl
theorem fo217_7 : fOff Try.prog 217 7 = some 7 := by kernel_rfl
theorem fo217_8 : fOff Try.prog 217 8 = some 8 := by kernel_rfl
theorem fo217_9 : fOff Try.prog 217 9 = some 9 := by kernel_rfl
theorem fo217_10 : fOff Try.prog 217 10 = some 10 := by kernel_rfl
theorem go3 : isGo Try.prog 3 = true := by kernel_rfl
theorem go4 : isGo Try.prog 4 = true := by kernel_rfl
theorem go5 : isGo Try.prog 5 = true := by kernel_rfl
theorem go6 : isGo Try.prog 6 = true := by kernel_rfl
theorem go7 : isGo Try.prog 7 = true := by kernel_rfl
theorem go8 : isGo Try.prog 8 = true := by kernel_rfl
theorem go9 : isGo Try.prog 9 = true := by kernel_rfl
theorem go10 : isGo Try.prog 10 = true := by kernel_rfl
theorem go11 : isGo Try.prog 11 = true := by kernel_rfl
theorem go12 : isGo Try.prog 12 = true := by kernel_rfl
theorem go13 : isGo Try.prog 13 = true := by kernel_rfl
theorem go14 : isGo Try.prog 14 = true := by kernel_rfl
theorem go15 : isGo Try.prog 15 = true := by kernel_rfl
theorem go16 : isGo Try.prog 16 = true := by kernel_rfl
theorem go17 : isGo Try.prog 17 = true := by kernel_rfl
theorem go18 : isGo Try.prog 18 = true := by kernel_rfl
theorem go19 : isGo Try.prog 19 = true := by kernel_rfl
theorem go20 : isGo Try.prog 20 = true := by kernel_rfl
theorem go21 : isGo Try.prog 21 = true := by kernel_rfl
theorem go22 : isGo Try.prog 22 = true := by kernel_rfl
theorem go23 : isGo Try.prog 23 = true := by kernel_rfl
theorem go24 : isGo Try.prog 24 = true := by kernel_rfl
theorem go25 : isGo Try.prog 25 = true := by kernel_rfl
theorem go26 : isGo Try.prog 26 = true := by kernel_rfl
theorem go27 : isGo Try.prog 27 = true := by kernel_rfl
theorem go28 : isGo Try.prog 28 = true := by kernel_rfl
theorem go29 : isGo Try.prog 29 = true := by kernel_rfl
theorem go30 : isGo Try.prog 30 = true := by kernel_rfl
theorem go31 : isGo Try.prog 31 = true := by kernel_rfl
theorem go32 : isGo Try.prog 32 = true := by kernel_rfl
theorem go33 : isGo Try.prog 33 = true := by kernel_rfl
theorem go34 : isGo Try.prog 34 = true := by kernel_rfl
theorem go35 : isGo Try.prog 35 = true := by kernel_rfl
theorem go36 : isGo Try.prog 36 = true := by kernel_rfl
theorem go37 : isGo Try.prog 37 = true := by kernel_rfl
theorem go38 : isGo Try.prog 38 = true := by kernel_rfl
theorem go39 : isGo Try.prog 39 = true := by kernel_rfl
theorem go40 : isGo Try.prog 40 = true := by kernel_rfl
theorem go41 : isGo Try.prog 41 = true := by kernel_rfl
theorem go42 : isGo Try.prog 42 = true := by kernel_rfl
theorem go43 : isGo Try.prog 43 = true := by kernel_rfl
theorem go44 : isGo Try.prog 44 = true := by kernel_rfl
theorem go45 : isGo Try.prog 45 = true := by kernel_rfl
theorem go46 : isGo Try.prog 46 = true := by kernel_rfl
theorem go47 : isGo Try.prog 47 = true := by kernel_rfl
theorem go48 : isGo Try.prog 48 = true := by kernel_rfl
theorem go49 : isGo Try.prog 49 = true := by kernel_rfl
theorem go50 : isGo Try.prog 50 = true := by kernel_rfl
theorem go51 : isGo Try.prog 51 = true := by kernel_rfl
theorem go52 : isGo Try.prog 52 = true := by kernel_rfl
theorem go53 : isGo Try.prog 53 = true := by kernel_rfl
theorem go54 : isGo Try.prog 54 = true := by kernel_rfl
theorem go55 : isGo Try.prog 55 = true := by kernel_rfl
theorem go56 : isGo Try.prog 56 = true := by kernel_rfl
theorem go57 : isGo Try.prog 57 = true := by kernel_rfl
theorem go58 : isGo Try.prog 58 = true := by kernel_rfl
theorem go59 : isGo Try.prog 59 = true := by kernel_rfl
theorem go60 : isGo Try.prog 60 = true := by kernel_rfl
theorem go61 : isGo Try.prog 61 = true := by kernel_rfl
theorem go62 : isGo Try.prog 62 = true := by kernel_rfl
theorem go63 : isGo Try.prog 63 = true := by kernel_rfl
theorem go64 : isGo Try.prog 64 = true := by kernel_rfl
theorem go65 : isGo Try.prog 65 = true := by kernel_rfl
theorem go66 : isGo Try.prog 66 = true := by kernel_rfl
theorem go67 : isGo Try.prog 67 = true := by kernel_rfl
theorem go68 : isGo Try.prog 68 = true := by kernel_rfl
theorem go69 : isGo Try.prog 69 = true := by kernel_rfl
theorem go70 : isGo Try.prog 70 = true := by kernel_rfl
theorem go71 : isGo Try.prog 71 = true := by kernel_rfl
theorem go72 : isGo Try.prog 72 = true := by kernel_rfl
theorem go73 : isGo Try.prog 73 = true := by kernel_rfl
theorem go74 : isGo Try.prog 74 = true := by kernel_rfl
theorem go75 : isGo Try.prog 75 = true := by kernel_rfl
theorem go76 : isGo Try.prog 76 = true := by kernel_rfl
theorem go77 : isGo Try.prog 77 = true := by kernel_rfl
theorem go78 : isGo Try.prog 78 = true := by kernel_rfl
theorem go79 : isGo Try.prog 79 = true := by kernel_rfl
theorem go80 : isGo Try.prog 80 = true := by kernel_rfl
theorem go81 : isGo Try.prog 81 = true := by kernel_rfl
theorem go82 : isGo Try.prog 82 = true := by kernel_rfl
theorem go83 : isGo Try.prog 83 = true := by kernel_rfl
theorem go84 : isGo Try.prog 84 = true := by kernel_rfl
theorem go85 : isGo Try.prog 85 = true := by kernel_rfl
theorem go86 : isGo Try.prog 86 = true := by kernel_rfl
theorem go87 : isGo Try.prog 87 = true := by kernel_rfl
theorem go88 : isGo Try.prog 88 = true := by kernel_rfl
theorem go89 : isGo Try.prog 89 = true := by kernel_rfl
theorem go90 : isGo Try.prog 90 = true := by kernel_rfl
theorem go91 : isGo Try.prog 91 = true := by kernel_rfl
theorem go92 : isGo Try.prog 92 = true := by kernel_rfl
theorem go93 : isGo Try.prog 93 = true := by kernel_rfl
theorem go94 : isGo Try.prog 94 = true := by kernel_rfl
theorem go95 : isGo Try.prog 95 = true := by kernel_rfl
theorem go96 : isGo Try.prog 96 = true := by kernel_rfl
theorem go97 : isGo Try.prog 97 = true := by kernel_rfl
theorem go98 : isGo Try.prog 98 = true := by kernel_rfl
theorem go99 : isGo Try.prog 99 = true := by kernel_rfl
theorem go100 : isGo Try.prog 100 = true := by kernel_rfl
theorem go101 : isGo Try.prog 101 = true := by kernel_rfl
theorem go102 : isGo Try.prog 102 = true := by kernel_rfl
theorem go103 : isGo Try.prog 103 = true := by kernel_rfl
theorem go104 : isGo Try.prog 104 = true := by kernel_rfl
theorem go105 : isGo Try.prog 105 = true := by kernel_rfl
theorem go106 : isGo Try.prog 106 = true := by kernel_rfl
theorem go107 : isGo Try.prog 107 = true := by kernel_rfl
theorem go108 : isGo Try.prog 108 = true := by kernel_rfl
theorem go109 : isGo Try.prog 109 = true := by kernel_rfl
theorem go110 : isGo Try.prog 110 = true := by kernel_rfl
theorem go111 : isGo Try.prog 111 = true := by kernel_rfl
theorem go112 : isGo Try.prog 112 = true := by kernel_rfl
theorem go113 : isGo Try.prog 113 = true := by kernel_rfl
theorem go114 : isGo Try.prog 114 = true := by kernel_rfl
theorem go115 : isGo Try.prog 115 = true := by kernel_rfl
theorem go116 : isGo Try.prog 116 = true := by kernel_rfl
theorem go117 : isGo Try.prog 117 = true := by kernel_rfl
theorem go118 : isGo Try.prog 118 = true := by kernel_rfl
theorem go119 : isGo Try.prog 119 = true := by kernel_rfl
theorem go120 : isGo Try.prog 120 = true := by kernel_rfl
theorem go121 : isGo Try.prog 121 = true := by kernel_rfl
theorem go122 : isGo Try.prog 122 = true := by kernel_rfl
theorem go123 : isGo Try.prog 123 = true := by kernel_rfl
theorem go124 : isGo Try.prog 124 = true := by kernel_rfl
theorem go125 : isGo Try.prog 125 = true := by kernel_rfl
theorem go126 : isGo Try.prog 126 = true := by kernel_rfl
theorem go127 : isGo Try.prog 127 = true := by kernel_rfl
theorem go128 : isGo Try.prog 128 = true := by kernel_rfl
theorem go129 : isGo Try.prog 129 = true := by kernel_rfl
theorem go130 : isGo Try.prog 130 = true := by kernel_rfl
theorem go131 : isGo Try.prog 131 = true := by kernel_rfl
theorem go132 : isGo Try.prog 132 = true := by kernel_rfl
theorem go133 : isGo Try.prog 133 = true := by kernel_rfl
theorem go134 : isGo Try.prog 134 = true := by kernel_rfl
theorem go135 : isGo Try.prog 135 = true := by kernel_rfl
theorem go136 : isGo Try.prog 136 = true := by kernel_rfl
theorem go137 : isGo Try.prog 137 = true := by kernel_rfl
theorem go138 : isGo Try.prog 138 = true := by kernel_rfl
theorem go139 : isGo Try.prog 139 = true := by kernel_rfl
theorem one_SpanV_cells (l : List SpanV) : ∀ v ∈ (l.map SpanV.cells).flatten, v.oneCell' = true := one_flat (fun _ => rfl) l
theorem one_SledV_cells (l : List SledV) : ∀ v ∈ (l.map SledV.cells).flatten, v.oneCell' = true := one_flat (fun _ => rfl) l
theorem one_StretchV_cells (l : List StretchV) : ∀ v ∈ (l.map StretchV.cells).flatten, v.oneCell' = true := one_flat (fun _ => rfl) l
theorem ta22 : tA Try.prog 22 = some (77, 9, 72, (Value.agg [(Value.int .i64 0), (Value.int .i64 0), (Value.int .i64 0), (Value.int .i64 0), (Value.int .i64 0), (Value.int .i64 0), (Value.int .i64 0), (Value.int .u8 0), (Value.int .i64 0)].toArray)) := by kernel_rfl
theorem ta31 : tA Try.prog 31 = some (26, 2, 16, (Value.agg [(Value.int .i64 0), (Value.int .i64 0)].toArray)) := by kernel_rfl
theorem ta50 : tA Try.prog 50 = some (28, 11, 88, (Value.agg [(Value.int .u8 0), (Value.int .i64 0), (Value.int .i64 0), (Value.int .i64 0), (Value.int .i64 0), (Value.int .i64 0), (Value.int .i64 0), (Value.int .i64 0), (Value.int .i64 0), (Value.int .i64 0), (Value.int .i64 0)].toArray)) := by kernel_rfl
theorem ta61 : tA Try.prog 61 = some (3, 1, 8, (Value.int .i64 0)) := by kernel_rfl
theorem ta70 : tA Try.prog 70 = some (88, 1, 4, (Value.int .u32 0)) := by kernel_rfl
theorem ta86 : tA Try.prog 86 = some (24, 1, 24, (Value.agg [(Value.slice none 0 0)].toArray)) := by kernel_rfl
theorem ta103 : tA Try.prog 103 = some (143, 5, 40, (Value.agg [(Value.int .u8 0), (Value.int .i64 0), (Value.int .i64 0), (Value.int .i64 0), (Value.int .i64 0)].toArray)) := by kernel_rfl
theorem ta132 : tA Try.prog 132 = some (131, 1, 8, (Value.pointer none)) := by kernel_rfl
theorem ta156 : tA Try.prog 156 = some (22, 1, 24, (Value.slice none 0 0)) := by kernel_rfl
theorem tb7 : tB Try.prog 7 = some ([(Value.int .i64 0), (Value.int .i64 0), (Value.bool false), (Value.int .u8 0)], [(0, 1), (1, 1), (2, 1), (3, 1)]) := by kernel_rfl
theorem tb8 : tB Try.prog 8 = some ([(Value.int .i64 0), (Value.int .i64 0), (Value.bool false), (Value.int .u8 0)], [(0, 1), (1, 1), (2, 1), (3, 1)]) := by kernel_rfl
theorem tb18 : tB Try.prog 18 = some ([(Value.pointer none)], [(0, 1)]) := by kernel_rfl
theorem tb19 : tB Try.prog 19 = some ([(Value.pointer none)], [(0, 1)]) := by kernel_rfl
theorem tb23 : tB Try.prog 23 = some ([(Value.slice none 0 0)], [(0, 1)]) := by kernel_rfl
theorem tb24 : tB Try.prog 24 = some ([(Value.slice none 0 0)], [(0, 1)]) := by kernel_rfl
theorem tb25 : tB Try.prog 25 = some ([(Value.int .i64 0), (Value.int .i64 0)], [(0, 1), (1, 1)]) := by kernel_rfl
theorem tb26 : tB Try.prog 26 = some ([(Value.int .i64 0), (Value.int .i64 0)], [(0, 1), (1, 1)]) := by kernel_rfl
theorem tb27 : tB Try.prog 27 = some ([(Value.int .u8 0), (Value.int .i64 0), (Value.int .i64 0), (Value.int .i64 0), (Value.int .i64 0), (Value.int .i64 0), (Value.int .i64 0), (Value.int .i64 0), (Value.int .i64 0), (Value.int .i64 0), (Value.int .i64 0)], [(0, 1), (1, 2), (3, 2), (5, 2), (7, 2), (9, 2)]) := by kernel_rfl
theorem tb28 : tB Try.prog 28 = some ([(Value.int .u8 0), (Value.int .i64 0), (Value.int .i64 0), (Value.int .i64 0), (Value.int .i64 0), (Value.int .i64 0), (Value.int .i64 0), (Value.int .i64 0), (Value.int .i64 0), (Value.int .i64 0), (Value.int .i64 0)], [(0, 1), (1, 2), (3, 2), (5, 2), (7, 2), (9, 2)]) := by kernel_rfl
theorem tb76 : tB Try.prog 76 = some ([(Value.int .i64 0), (Value.int .i64 0), (Value.int .i64 0), (Value.int .i64 0), (Value.int .i64 0), (Value.int .i64 0), (Value.int .i64 0), (Value.int .u8 0), (Value.int .i64 0)], [(0, 1), (1, 2), (3, 2), (5, 2), (7, 1), (8, 1)]) := by kernel_rfl
theorem tb77 : tB Try.prog 77 = some ([(Value.int .i64 0), (Value.int .i64 0), (Value.int .i64 0), (Value.int .i64 0), (Value.int .i64 0), (Value.int .i64 0), (Value.int .i64 0), (Value.int .u8 0), (Value.int .i64 0)], [(0, 1), (1, 2), (3, 2), (5, 2), (7, 1), (8, 1)]) := by kernel_rfl
theorem tb107 : tB Try.prog 107 = some ([(Value.int .u8 0), (Value.int .i64 0), (Value.int .i64 0), (Value.int .i64 0), (Value.int .i64 0), (Value.int .i64 0), (Value.int .i64 0), (Value.int .i64 0), (Value.int .i64 0), (Value.int .i64 0), (Value.int .i64 0), (Value.slice none 0 0), (Value.bool false)], [(0, 11), (11, 1), (12, 1)]) := by kernel_rfl
theorem tb108 : tB Try.prog 108 = some ([(Value.int .u8 0), (Value.int .i64 0), (Value.int .i64 0), (Value.int .i64 0), (Value.int .i64 0), (Value.int .i64 0), (Value.int .i64 0), (Value.int .i64 0), (Value.int .i64 0), (Value.int .i64 0), (Value.int .i64 0), (Value.slice none 0 0), (Value.bool false)], [(0, 11), (11, 1), (12, 1)]) := by kernel_rfl
theorem tb135 : tB Try.prog 135 = some ([(Value.slice none 0 0)], [(0, 1)]) := by kernel_rfl
theorem tb136 : tB Try.prog 136 = some ([(Value.slice none 0 0)], [(0, 1)]) := by kernel_rfl
theorem tb142 : tB Try.prog 142 = some ([(Value.int .u8 0), (Value.int .i64 0), (Value.int .i64 0), (Value.int .i64 0), (Value.int .i64 0)], [(0, 1), (1, 1), (2, 1), (3, 2)]) := by kernel_rfl
theorem tb143 : tB Try.prog 143 = some ([(Value.int .u8 0), (Value.int .i64 0), (Value.int .i64 0), (Value.int .i64 0), (Value.int .i64 0)], [(0, 1), (1, 1), (2, 1), (3, 2)]) := by kernel_rfl
theorem tb151 : tB Try.prog 151 = some ([Value.nilFunc], [(0, 1)]) := by kernel_rfl
theorem tb152 : tB Try.prog 152 = some ([Value.nilFunc, Value.nilFunc], [(0, 1), (1, 1)]) := by kernel_rfl
theorem tb170 : tB Try.prog 170 = some ([Value.nilFunc], [(0, 1)]) := by kernel_rfl
theorem tb171 : tB Try.prog 171 = some ([Value.nilFunc], [(0, 1)]) := by kernel_rfl
theorem tb172 : tB Try.prog 172 = some ([Value.nilFunc, Value.nilFunc, Value.nilFunc], [(0, 1), (1, 1), (2, 1)]) := by kernel_rfl
theorem tb174 : tB Try.prog 174 = some ([(Value.int .i64 0), (Value.int .i64 0), (Value.int .i64 0), (Value.int .i64 0), (Value.int .i64 0), (Value.int .i64 0), (Value.int .i64 0), (Value.int .i64 0), (Value.int .i64 0), (Value.int .i64 0), (Value.int .i64 0), (Value.int .i64 0), (Value.int .i64 0)], [(0, 1), (1, 1), (2, 1), (3, 1), (4, 1), (5, 1), (6, 1), (7, 1), (8, 1), (9, 1), (10, 1), (11, 1), (12, 1)]) := by kernel_rfl
theorem tb175 : tB Try.prog 175 = some ([(Value.int .i64 0), (Value.int .i64 0), (Value.int .i64 0), (Value.int .i64 0), (Value.int .i64 0), (Value.int .i64 0), (Value.int .i64 0), (Value.int .i64 0), (Value.int .i64 0), (Value.int .i64 0), (Value.int .i64 0), (Value.int .i64 0), (Value.int .i64 0), (Value.int .i64 0), (Value.int .i64 0), (Value.int .i64 0), (Value.int .i64 0), (Value.int .i64 0), (Value.int .i64 0), (Value.int .i64 0), (Value.int .i64 0), (Value.int .i64 0), (Value.int .i64 0), (Value.int .i64 0), (Value.int .i64 0), (Value.int .i64 0), (Value.int .i64 0), (Value.int .i64 0), (Value.int .i64 0), (Value.int .i64 0), (Value.int .i64 0), (Value.int .i64 0), (Value.int .i64 0), (Value.int .i64 0), (Value.int .i64 0), (Value.int .i64 0), (Value.int .i64 0), (Value.int .i64 0), (Value.int .i64 0), (Value.int .i64 0), (Value.int .i64 0), (Value.int .i64 0), (Value.int .i64 0), (Value.int .i64 0), (Value.int .i64 0), (Value.int .i64 0), (Value.int .i64 0), (Value.int .i64 0), (Value.int .i64 0), (Value.int .i64 0), (Value.int .i64 0), (Value.int .i64 0), (Value.int .i64 0), (Value.int .i64 0), (Value.int .i64 0), (Value.int .i64 0), (Value.int .i64 0), (Value.int .i64 0), (Value.int .i64 0), (Value.int .i64 0), (Value.int .i64 0), (Value.int .i64 0), (Value.int .i64 0), (Value.int .i64 0), (Value.int .i64 0), (Value.int .i64 0), (Value.int .i64 0), (Value.int .i64 0), (Value.int .i64 0), (Value.int .i64 0), (Value.int .i64 0), (Value.int .i64 0), (Value.int .i64 0), (Value.int .i64 0), (Value.int .i64 0), (Value.int .i64 0), (Value.int .i64 0), (Value.int .i64 0), (Value.int .i64 0), (Value.int .i64 0), (Value.int .i64 0), (Value.int .i64 0), (Value.int .i64 0), (Value.int .i64 0), (Value.int .i64 0), (Value.int .i64 0), (Value.int .i64 0), (Value.int .i64 0), (Value.int .i64 0), (Value.int .i64 0), (Value.int .i64 0), (Value.int .i64 0), (Value.int .i64 0), (Value.int .i64 0), (Value.int .i64 0), (Value.int .i64 0), (Value.int .i64 0), (Value.int .i64 0), (Value.int .i64 0), (Value.int .i64 0), (Value.int .i64 0), (Value.int .i64 0), (Value.int .i64 0), (Value.int .i64 0), (Value.int .i64 0), (Value.int .i64 0), (Value.int .i64 0), (Value.int .i64 0), (Value.int .i64 0), (Value.int .i64 0), (Value.int .i64 0), (Value.int .i64 0), (Value.int .i64 0), (Value.int .i64 0), (Value.int .i64 0), (Value.int .i64 0), (Value.int .i64 0), (Value.int .i64 0), (Value.int .i64 0), (Value.int .i64 0), (Value.int .i64 0), (Value.int .i64 0), (Value.int .i64 0), (Value.int .i64 0), (Value.int .i64 0), (Value.int .i64 0), (Value.int .i64 0), (Value.int .i64 0), (Value.int .i64 0), (Value.int .i64 0), (Value.int .i64 0), (Value.int .i64 0), (Value.int .i64 0), (Value.int .i64 0), (Value.int .i64 0), (Value.int .i64 0), (Value.int .i64 0), (Value.int .i64 0), (Value.int .i64 0), (Value.int .i64 0), (Value.int .i64 0), (Value.int .i64 0), (Value.int .i64 0), (Value.int .i64 0), (Value.int .i64 0), (Value.int .i64 0), (Value.int .i64 0), (Value.int .i64 0), (Value.int .i64 0), (Value.int .i64 0), (Value.int .i64 0), (Value.int .i64 0), (Value.int .i64 0), (Value.int .i64 0), (Value.int .i64 0), (Value.int .i64 0), (Value.int .i64 0), (Value.int .i64 0), (Value.int .i64 0), (Value.int .i64 0), (Value.int .i64 0), (Value.int .i64 0), (Value.int .i64 0), (Value.int .i64 0), (Value.int .i64 0), (Value.int .i64 0), (Value.int .i64 0), (Value.int .i64 0), (Value.int .i64 0)], [(0, 13), (13, 13), (26, 13), (39, 13), (52, 13), (65, 13), (78, 13), (91, 13), (104, 13), (117, 13), (130, 13), (143, 13), (156, 13)]) := by kernel_rfl
theorem tb176 : tB Try.prog 176 = some ([(Value.int .i64 0), (Value.int .i64 0), (Value.int .i64 0), (Value.int .i64 0), (Value.int .i64 0), (Value.int .i64 0), (Value.int .i64 0), (Value.int .i64 0), (Value.int .i64 0), (Value.int .i64 0), (Value.int .i64 0), (Value.int .i64 0), (Value.int .i64 0), (Value.int .i64 0), (Value.int .i64 0), (Value.int .i64 0), (Value.int .i64 0), (Value.int .i64 0), (Value.int .i64 0), (Value.int .i64 0), (Value.int .i64 0), (Value.int .i64 0), (Value.int .i64 0), (Value.int .i64 0), (Value.int .i64 0), (Value.int .i64 0), (Value.int .i64 0), (Value.int .i64 0), (Value.int .i64 0), (Value.int .i64 0), (Value.int .i64 0), (Value.int .i64 0), (Value.int .i64 0), (Value.int .i64 0), (Value.int .i64 0), (Value.int .i64 0), (Value.int .i64 0), (Value.int .i64 0), (Value.int .i64 0), (Value.int .i64 0), (Value.int .i64 0), (Value.int .i64 0), (Value.int .i64 0), (Value.int .i64 0), (Value.int .i64 0), (Value.int .i64 0), (Value.int .i64 0), (Value.int .i64 0), (Value.int .i64 0), (Value.int .i64 0), (Value.int .i64 0), (Value.int .i64 0), (Value.int .i64 0), (Value.int .i64 0), (Value.int .i64 0), (Value.int .i64 0), (Value.int .i64 0), (Value.int .i64 0), (Value.int .i64 0), (Value.int .i64 0), (Value.int .i64 0), (Value.int .i64 0), (Value.int .i64 0), (Value.int .i64 0), (Value.int .i64 0), (Value.int .i64 0), (Value.int .i64 0), (Value.int .i64 0), (Value.int .i64 0), (Value.int .i64 0), (Value.int .i64 0), (Value.int .i64 0), (Value.int .i64 0), (Value.int .i64 0), (Value.int .i64 0), (Value.int .i64 0), (Value.int .i64 0), (Value.int .i64 0), (Value.int .i64 0), (Value.int .i64 0), (Value.int .i64 0), (Value.int .i64 0), (Value.int .i64 0), (Value.int .i64 0), (Value.int .i64 0), (Value.int .i64 0), (Value.int .i64 0), (Value.int .i64 0), (Value.int .i64 0), (Value.int .i64 0), (Value.int .i64 0), (Value.int .i64 0), (Value.int .i64 0), (Value.int .i64 0), (Value.int .i64 0), (Value.int .i64 0), (Value.int .i64 0), (Value.int .i64 0), (Value.int .i64 0), (Value.int .i64 0), (Value.int .i64 0), (Value.int .i64 0), (Value.int .i64 0), (Value.int .i64 0), (Value.int .i64 0), (Value.int .i64 0), (Value.int .i64 0), (Value.int .i64 0), (Value.int .i64 0), (Value.int .i64 0), (Value.int .i64 0), (Value.int .i64 0), (Value.int .i64 0), (Value.int .i64 0), (Value.int .i64 0), (Value.int .i64 0), (Value.int .i64 0), (Value.int .i64 0), (Value.int .i64 0), (Value.int .i64 0), (Value.int .i64 0), (Value.int .i64 0), (Value.int .i64 0), (Value.int .i64 0), (Value.int .i64 0), (Value.int .i64 0), (Value.int .i64 0), (Value.int .i64 0), (Value.int .i64 0), (Value.int .i64 0), (Value.int .i64 0), (Value.int .i64 0), (Value.int .i64 0), (Value.int .i64 0), (Value.int .i64 0), (Value.int .i64 0), (Value.int .i64 0), (Value.int .i64 0), (Value.int .i64 0), (Value.int .i64 0), (Value.int .i64 0), (Value.int .i64 0), (Value.int .i64 0), (Value.int .i64 0), (Value.int .i64 0), (Value.int .i64 0), (Value.int .i64 0), (Value.int .i64 0), (Value.int .i64 0), (Value.int .i64 0), (Value.int .i64 0), (Value.int .i64 0), (Value.int .i64 0), (Value.int .i64 0), (Value.int .i64 0), (Value.int .i64 0), (Value.int .i64 0), (Value.int .i64 0), (Value.int .i64 0), (Value.int .i64 0), (Value.int .i64 0), (Value.int .i64 0), (Value.int .i64 0), (Value.int .i64 0), (Value.int .i64 0), (Value.int .i64 0), (Value.int .i64 0), (Value.int .i64 0), (Value.int .i64 0)], [(0, 13), (13, 13), (26, 13), (39, 13), (52, 13), (65, 13), (78, 13), (91, 13), (104, 13), (117, 13), (130, 13), (143, 13), (156, 13)]) := by kernel_rfl
theorem tb206 : tB Try.prog 206 = some ([], []) := by kernel_rfl
theorem tb207 : tB Try.prog 207 = some ([], [(0, 0)]) := by kernel_rfl
theorem tb208 : tB Try.prog 208 = some ([], [(0, 0)]) := by kernel_rfl
theorem tb216 : tB Try.prog 216 = some ([(Value.int .u64 0), (Value.int .u64 0), (Value.int .u32 0), (Value.int .u8 0), (Value.int .u8 0), (Value.int .u8 0), (Value.int .u8 0), Value.nilFunc, (Value.pointer none), (Value.int .i32 0), (Value.int .i32 0)], [(0, 1), (1, 1), (2, 1), (3, 1), (4, 1), (5, 1), (6, 1), (7, 1), (8, 1), (9, 1), (10, 1)]) := by kernel_rfl
theorem tb217 : tB Try.prog 217 = some ([(Value.int .u64 0), (Value.int .u64 0), (Value.int .u32 0), (Value.int .u8 0), (Value.int .u8 0), (Value.int .u8 0), (Value.int .u8 0), Value.nilFunc, (Value.pointer none), (Value.int .i32 0), (Value.int .i32 0)], [(0, 1), (1, 1), (2, 1), (3, 1), (4, 1), (5, 1), (6, 1), (7, 1), (8, 1), (9, 1), (10, 1)]) := by kernel_rfl
theorem te22 : tE Try.prog 22 = some (77, 9) := by kernel_rfl
theorem te31 : tE Try.prog 31 = some (26, 2) := by kernel_rfl
theorem te50 : tE Try.prog 50 = some (28, 11) := by kernel_rfl
theorem te61 : tE Try.prog 61 = some (3, 1) := by kernel_rfl
theorem te70 : tE Try.prog 70 = some (88, 1) := by kernel_rfl
theorem te86 : tE Try.prog 86 = some (24, 1) := by kernel_rfl
theorem te103 : tE Try.prog 103 = some (143, 5) := by kernel_rfl
theorem te132 : tE Try.prog 132 = some (131, 1) := by kernel_rfl
theorem te156 : tE Try.prog 156 = some (22, 1) := by kernel_rfl
theorem tf7_0 : (match Try.prog.underlying 7 with | some (.struct fs) => (fs[0]?).map (fun fl => tK Try.prog fl.type) | _ => none) = some (some (false, 1)) := by kernel_rfl
theorem tf7_1 : (match Try.prog.underlying 7 with | some (.struct fs) => (fs[1]?).map (fun fl => tK Try.prog fl.type) | _ => none) = some (some (false, 1)) := by kernel_rfl
theorem tf7_2 : (match Try.prog.underlying 7 with | some (.struct fs) => (fs[2]?).map (fun fl => tK Try.prog fl.type) | _ => none) = some (some (false, 1)) := by kernel_rfl
theorem tf7_3 : (match Try.prog.underlying 7 with | some (.struct fs) => (fs[3]?).map (fun fl => tK Try.prog fl.type) | _ => none) = some (some (false, 1)) := by kernel_rfl
theorem tf8_0 : (match Try.prog.underlying 8 with | some (.struct fs) => (fs[0]?).map (fun fl => tK Try.prog fl.type) | _ => none) = some (some (false, 1)) := by kernel_rfl
theorem tf8_1 : (match Try.prog.underlying 8 with | some (.struct fs) => (fs[1]?).map (fun fl => tK Try.prog fl.type) | _ => none) = some (some (false, 1)) := by kernel_rfl
theorem tf8_2 : (match Try.prog.underlying 8 with | some (.struct fs) => (fs[2]?).map (fun fl => tK Try.prog fl.type) | _ => none) = some (some (false, 1)) := by kernel_rfl
theorem tf8_3 : (match Try.prog.underlying 8 with | some (.struct fs) => (fs[3]?).map (fun fl => tK Try.prog fl.type) | _ => none) = some (some (false, 1)) := by kernel_rfl
theorem tf18_0 : (match Try.prog.underlying 18 with | some (.struct fs) => (fs[0]?).map (fun fl => tK Try.prog fl.type) | _ => none) = some (some (false, 1)) := by kernel_rfl
theorem tf19_0 : (match Try.prog.underlying 19 with | some (.struct fs) => (fs[0]?).map (fun fl => tK Try.prog fl.type) | _ => none) = some (some (false, 1)) := by kernel_rfl
theorem tf23_0 : (match Try.prog.underlying 23 with | some (.struct fs) => (fs[0]?).map (fun fl => tK Try.prog fl.type) | _ => none) = some (some (false, 1)) := by kernel_rfl
theorem tf24_0 : (match Try.prog.underlying 24 with | some (.struct fs) => (fs[0]?).map (fun fl => tK Try.prog fl.type) | _ => none) = some (some (false, 1)) := by kernel_rfl
theorem tf25_0 : (match Try.prog.underlying 25 with | some (.struct fs) => (fs[0]?).map (fun fl => tK Try.prog fl.type) | _ => none) = some (some (false, 1)) := by kernel_rfl
theorem tf25_1 : (match Try.prog.underlying 25 with | some (.struct fs) => (fs[1]?).map (fun fl => tK Try.prog fl.type) | _ => none) = some (some (false, 1)) := by kernel_rfl
theorem tf26_0 : (match Try.prog.underlying 26 with | some (.struct fs) => (fs[0]?).map (fun fl => tK Try.prog fl.type) | _ => none) = some (some (false, 1)) := by kernel_rfl
theorem tf26_1 : (match Try.prog.underlying 26 with | some (.struct fs) => (fs[1]?).map (fun fl => tK Try.prog fl.type) | _ => none) = some (some (false, 1)) := by kernel_rfl
theorem tf27_0 : (match Try.prog.underlying 27 with | some (.struct fs) => (fs[0]?).map (fun fl => tK Try.prog fl.type) | _ => none) = some (some (false, 1)) := by kernel_rfl
theorem tf27_1 : (match Try.prog.underlying 27 with | some (.struct fs) => (fs[1]?).map (fun fl => tK Try.prog fl.type) | _ => none) = some (some (true, 2)) := by kernel_rfl
theorem tf27_2 : (match Try.prog.underlying 27 with | some (.struct fs) => (fs[2]?).map (fun fl => tK Try.prog fl.type) | _ => none) = some (some (true, 2)) := by kernel_rfl
theorem tf27_3 : (match Try.prog.underlying 27 with | some (.struct fs) => (fs[3]?).map (fun fl => tK Try.prog fl.type) | _ => none) = some (some (true, 2)) := by kernel_rfl
theorem tf27_4 : (match Try.prog.underlying 27 with | some (.struct fs) => (fs[4]?).map (fun fl => tK Try.prog fl.type) | _ => none) = some (some (true, 2)) := by kernel_rfl
theorem tf27_5 : (match Try.prog.underlying 27 with | some (.struct fs) => (fs[5]?).map (fun fl => tK Try.prog fl.type) | _ => none) = some (some (true, 2)) := by kernel_rfl
theorem tf28_0 : (match Try.prog.underlying 28 with | some (.struct fs) => (fs[0]?).map (fun fl => tK Try.prog fl.type) | _ => none) = some (some (false, 1)) := by kernel_rfl
theorem tf28_1 : (match Try.prog.underlying 28 with | some (.struct fs) => (fs[1]?).map (fun fl => tK Try.prog fl.type) | _ => none) = some (some (true, 2)) := by kernel_rfl
theorem tf28_2 : (match Try.prog.underlying 28 with | some (.struct fs) => (fs[2]?).map (fun fl => tK Try.prog fl.type) | _ => none) = some (some (true, 2)) := by kernel_rfl
theorem tf28_3 : (match Try.prog.underlying 28 with | some (.struct fs) => (fs[3]?).map (fun fl => tK Try.prog fl.type) | _ => none) = some (some (true, 2)) := by kernel_rfl
theorem tf28_4 : (match Try.prog.underlying 28 with | some (.struct fs) => (fs[4]?).map (fun fl => tK Try.prog fl.type) | _ => none) = some (some (true, 2)) := by kernel_rfl
theorem tf28_5 : (match Try.prog.underlying 28 with | some (.struct fs) => (fs[5]?).map (fun fl => tK Try.prog fl.type) | _ => none) = some (some (true, 2)) := by kernel_rfl
theorem tf76_0 : (match Try.prog.underlying 76 with | some (.struct fs) => (fs[0]?).map (fun fl => tK Try.prog fl.type) | _ => none) = some (some (false, 1)) := by kernel_rfl
theorem tf76_1 : (match Try.prog.underlying 76 with | some (.struct fs) => (fs[1]?).map (fun fl => tK Try.prog fl.type) | _ => none) = some (some (true, 2)) := by kernel_rfl
theorem tf76_2 : (match Try.prog.underlying 76 with | some (.struct fs) => (fs[2]?).map (fun fl => tK Try.prog fl.type) | _ => none) = some (some (true, 2)) := by kernel_rfl
theorem tf76_3 : (match Try.prog.underlying 76 with | some (.struct fs) => (fs[3]?).map (fun fl => tK Try.prog fl.type) | _ => none) = some (some (true, 2)) := by kernel_rfl
theorem tf76_4 : (match Try.prog.underlying 76 with | some (.struct fs) => (fs[4]?).map (fun fl => tK Try.prog fl.type) | _ => none) = some (some (false, 1)) := by kernel_rfl
theorem tf76_5 : (match Try.prog.underlying 76 with | some (.struct fs) => (fs[5]?).map (fun fl => tK Try.prog fl.type) | _ => none) = some (some (false, 1)) := by kernel_rfl
theorem tf77_0 : (match Try.prog.underlying 77 with | some (.struct fs) => (fs[0]?).map (fun fl => tK Try.prog fl.type) | _ => none) = some (some (false, 1)) := by kernel_rfl
theorem tf77_1 : (match Try.prog.underlying 77 with | some (.struct fs) => (fs[1]?).map (fun fl => tK Try.prog fl.type) | _ => none) = some (some (true, 2)) := by kernel_rfl
theorem tf77_2 : (match Try.prog.underlying 77 with | some (.struct fs) => (fs[2]?).map (fun fl => tK Try.prog fl.type) | _ => none) = some (some (true, 2)) := by kernel_rfl
theorem tf77_3 : (match Try.prog.underlying 77 with | some (.struct fs) => (fs[3]?).map (fun fl => tK Try.prog fl.type) | _ => none) = some (some (true, 2)) := by kernel_rfl
theorem tf77_4 : (match Try.prog.underlying 77 with | some (.struct fs) => (fs[4]?).map (fun fl => tK Try.prog fl.type) | _ => none) = some (some (false, 1)) := by kernel_rfl
theorem tf77_5 : (match Try.prog.underlying 77 with | some (.struct fs) => (fs[5]?).map (fun fl => tK Try.prog fl.type) | _ => none) = some (some (false, 1)) := by kernel_rfl
theorem tf107_0 : (match Try.prog.underlying 107 with | some (.struct fs) => (fs[0]?).map (fun fl => tK Try.prog fl.type) | _ => none) = some (some (true, 11)) := by kernel_rfl
theorem tf107_1 : (match Try.prog.underlying 107 with | some (.struct fs) => (fs[1]?).map (fun fl => tK Try.prog fl.type) | _ => none) = some (some (true, 1)) := by kernel_rfl
theorem tf107_2 : (match Try.prog.underlying 107 with | some (.struct fs) => (fs[2]?).map (fun fl => tK Try.prog fl.type) | _ => none) = some (some (false, 1)) := by kernel_rfl
theorem tf108_0 : (match Try.prog.underlying 108 with | some (.struct fs) => (fs[0]?).map (fun fl => tK Try.prog fl.type) | _ => none) = some (some (true, 11)) := by kernel_rfl
theorem tf108_1 : (match Try.prog.underlying 108 with | some (.struct fs) => (fs[1]?).map (fun fl => tK Try.prog fl.type) | _ => none) = some (some (true, 1)) := by kernel_rfl
theorem tf108_2 : (match Try.prog.underlying 108 with | some (.struct fs) => (fs[2]?).map (fun fl => tK Try.prog fl.type) | _ => none) = some (some (false, 1)) := by kernel_rfl
theorem tf135_0 : (match Try.prog.underlying 135 with | some (.struct fs) => (fs[0]?).map (fun fl => tK Try.prog fl.type) | _ => none) = some (some (true, 1)) := by kernel_rfl
theorem tf136_0 : (match Try.prog.underlying 136 with | some (.struct fs) => (fs[0]?).map (fun fl => tK Try.prog fl.type) | _ => none) = some (some (true, 1)) := by kernel_rfl
theorem tf142_0 : (match Try.prog.underlying 142 with | some (.struct fs) => (fs[0]?).map (fun fl => tK Try.prog fl.type) | _ => none) = some (some (false, 1)) := by kernel_rfl
theorem tf142_1 : (match Try.prog.underlying 142 with | some (.struct fs) => (fs[1]?).map (fun fl => tK Try.prog fl.type) | _ => none) = some (some (false, 1)) := by kernel_rfl
theorem tf142_2 : (match Try.prog.underlying 142 with | some (.struct fs) => (fs[2]?).map (fun fl => tK Try.prog fl.type) | _ => none) = some (some (false, 1)) := by kernel_rfl
theorem tf142_3 : (match Try.prog.underlying 142 with | some (.struct fs) => (fs[3]?).map (fun fl => tK Try.prog fl.type) | _ => none) = some (some (true, 2)) := by kernel_rfl
theorem tf143_0 : (match Try.prog.underlying 143 with | some (.struct fs) => (fs[0]?).map (fun fl => tK Try.prog fl.type) | _ => none) = some (some (false, 1)) := by kernel_rfl
theorem tf143_1 : (match Try.prog.underlying 143 with | some (.struct fs) => (fs[1]?).map (fun fl => tK Try.prog fl.type) | _ => none) = some (some (false, 1)) := by kernel_rfl
theorem tf143_2 : (match Try.prog.underlying 143 with | some (.struct fs) => (fs[2]?).map (fun fl => tK Try.prog fl.type) | _ => none) = some (some (false, 1)) := by kernel_rfl
theorem tf143_3 : (match Try.prog.underlying 143 with | some (.struct fs) => (fs[3]?).map (fun fl => tK Try.prog fl.type) | _ => none) = some (some (true, 2)) := by kernel_rfl
theorem tf151_0 : (match Try.prog.underlying 151 with | some (.struct fs) => (fs[0]?).map (fun fl => tK Try.prog fl.type) | _ => none) = some (some (false, 1)) := by kernel_rfl
theorem tf170_0 : (match Try.prog.underlying 170 with | some (.struct fs) => (fs[0]?).map (fun fl => tK Try.prog fl.type) | _ => none) = some (some (false, 1)) := by kernel_rfl
theorem tf171_0 : (match Try.prog.underlying 171 with | some (.struct fs) => (fs[0]?).map (fun fl => tK Try.prog fl.type) | _ => none) = some (some (false, 1)) := by kernel_rfl
theorem tf216_0 : (match Try.prog.underlying 216 with | some (.struct fs) => (fs[0]?).map (fun fl => tK Try.prog fl.type) | _ => none) = some (some (false, 1)) := by kernel_rfl
theorem tf216_1 : (match Try.prog.underlying 216 with | some (.struct fs) => (fs[1]?).map (fun fl => tK Try.prog fl.type) | _ => none) = some (some (false, 1)) := by kernel_rfl
theorem tf216_2 : (match Try.prog.underlying 216 with | some (.struct fs) => (fs[2]?).map (fun fl => tK Try.prog fl.type) | _ => none) = some (some (false, 1)) := by kernel_rfl
theorem tf216_3 : (match Try.prog.underlying 216 with | some (.struct fs) => (fs[3]?).map (fun fl => tK Try.prog fl.type) | _ => none) = some (some (false, 1)) := by kernel_rfl
theorem tf216_4 : (match Try.prog.underlying 216 with | some (.struct fs) => (fs[4]?).map (fun fl => tK Try.prog fl.type) | _ => none) = some (some (false, 1)) := by kernel_rfl
theorem tf216_5 : (match Try.prog.underlying 216 with | some (.struct fs) => (fs[5]?).map (fun fl => tK Try.prog fl.type) | _ => none) = some (some (false, 1)) := by kernel_rfl
theorem tf216_6 : (match Try.prog.underlying 216 with | some (.struct fs) => (fs[6]?).map (fun fl => tK Try.prog fl.type) | _ => none) = some (some (false, 1)) := by kernel_rfl
theorem tf216_7 : (match Try.prog.underlying 216 with | some (.struct fs) => (fs[7]?).map (fun fl => tK Try.prog fl.type) | _ => none) = some (some (false, 1)) := by kernel_rfl
theorem tf216_8 : (match Try.prog.underlying 216 with | some (.struct fs) => (fs[8]?).map (fun fl => tK Try.prog fl.type) | _ => none) = some (some (false, 1)) := by kernel_rfl
theorem tf216_9 : (match Try.prog.underlying 216 with | some (.struct fs) => (fs[9]?).map (fun fl => tK Try.prog fl.type) | _ => none) = some (some (false, 1)) := by kernel_rfl
theorem tf216_10 : (match Try.prog.underlying 216 with | some (.struct fs) => (fs[10]?).map (fun fl => tK Try.prog fl.type) | _ => none) = some (some (false, 1)) := by kernel_rfl
theorem tf217_0 : (match Try.prog.underlying 217 with | some (.struct fs) => (fs[0]?).map (fun fl => tK Try.prog fl.type) | _ => none) = some (some (false, 1)) := by kernel_rfl
theorem tf217_1 : (match Try.prog.underlying 217 with | some (.struct fs) => (fs[1]?).map (fun fl => tK Try.prog fl.type) | _ => none) = some (some (false, 1)) := by kernel_rfl
theorem tf217_2 : (match Try.prog.underlying 217 with | some (.struct fs) => (fs[2]?).map (fun fl => tK Try.prog fl.type) | _ => none) = some (some (false, 1)) := by kernel_rfl
theorem tf217_3 : (match Try.prog.underlying 217 with | some (.struct fs) => (fs[3]?).map (fun fl => tK Try.prog fl.type) | _ => none) = some (some (false, 1)) := by kernel_rfl
theorem tf217_4 : (match Try.prog.underlying 217 with | some (.struct fs) => (fs[4]?).map (fun fl => tK Try.prog fl.type) | _ => none) = some (some (false, 1)) := by kernel_rfl
theorem tf217_5 : (match Try.prog.underlying 217 with | some (.struct fs) => (fs[5]?).map (fun fl => tK Try.prog fl.type) | _ => none) = some (some (false, 1)) := by kernel_rfl
theorem tf217_6 : (match Try.prog.underlying 217 with | some (.struct fs) => (fs[6]?).map (fun fl => tK Try.prog fl.type) | _ => none) = some (some (false, 1)) := by kernel_rfl
theorem tf217_7 : (match Try.prog.underlying 217 with | some (.struct fs) => (fs[7]?).map (fun fl => tK Try.prog fl.type) | _ => none) = some (some (false, 1)) := by kernel_rfl
theorem tf217_8 : (match Try.prog.underlying 217 with | some (.struct fs) => (fs[8]?).map (fun fl => tK Try.prog fl.type) | _ => none) = some (some (false, 1)) := by kernel_rfl
theorem tf217_9 : (match Try.prog.underlying 217 with | some (.struct fs) => (fs[9]?).map (fun fl => tK Try.prog fl.type) | _ => none) = some (some (false, 1)) := by kernel_rfl
theorem tf217_10 : (match Try.prog.underlying 217 with | some (.struct fs) => (fs[10]?).map (fun fl => tK Try.prog fl.type) | _ => none) = some (some (false, 1)) := by kernel_rfl
theorem tv2 : tV Try.prog 2 = some (Value.int .i64 0) := by kernel_rfl
theorem tv3 : tV Try.prog 3 = some (Value.int .i64 0) := by kernel_rfl
theorem tv4 : tV Try.prog 4 = some (Value.bool false) := by kernel_rfl
theorem tv5 : tV Try.prog 5 = some (Value.int .u8 0) := by kernel_rfl
theorem tv6 : tV Try.prog 6 = some (Value.int .u8 0) := by kernel_rfl
theorem tv7 : tV Try.prog 7 = some (Value.agg [(Value.int .i64 0), (Value.int .i64 0), (Value.bool false), (Value.int .u8 0)].toArray) := by kernel_rfl
theorem tv8 : tV Try.prog 8 = some (Value.agg [(Value.int .i64 0), (Value.int .i64 0), (Value.bool false), (Value.int .u8 0)].toArray) := by kernel_rfl
theorem tv12 : tV Try.prog 12 = some (Value.int .u64 0) := by kernel_rfl
theorem tv18 : tV Try.prog 18 = some (Value.agg [(Value.pointer none)].toArray) := by kernel_rfl
theorem tv19 : tV Try.prog 19 = some (Value.agg [(Value.pointer none)].toArray) := by kernel_rfl
theorem tv21 : tV Try.prog 21 = some (Value.int .i32 0) := by kernel_rfl
theorem tv23 : tV Try.prog 23 = some (Value.agg [(Value.slice none 0 0)].toArray) := by kernel_rfl
theorem tv24 : tV Try.prog 24 = some (Value.agg [(Value.slice none 0 0)].toArray) := by kernel_rfl
theorem tv25 : tV Try.prog 25 = some (Value.agg [(Value.int .i64 0), (Value.int .i64 0)].toArray) := by kernel_rfl
theorem tv26 : tV Try.prog 26 = some (Value.agg [(Value.int .i64 0), (Value.int .i64 0)].toArray) := by kernel_rfl
theorem tv27 : tV Try.prog 27 = some (Value.agg [(Value.int .u8 0), (Value.int .i64 0), (Value.int .i64 0), (Value.int .i64 0), (Value.int .i64 0), (Value.int .i64 0), (Value.int .i64 0), (Value.int .i64 0), (Value.int .i64 0), (Value.int .i64 0), (Value.int .i64 0)].toArray) := by kernel_rfl
theorem tv28 : tV Try.prog 28 = some (Value.agg [(Value.int .u8 0), (Value.int .i64 0), (Value.int .i64 0), (Value.int .i64 0), (Value.int .i64 0), (Value.int .i64 0), (Value.int .i64 0), (Value.int .i64 0), (Value.int .i64 0), (Value.int .i64 0), (Value.int .i64 0)].toArray) := by kernel_rfl
theorem tv32 : tV Try.prog 32 = some (Value.int .i64 0) := by kernel_rfl
theorem tv76 : tV Try.prog 76 = some (Value.agg [(Value.int .i64 0), (Value.int .i64 0), (Value.int .i64 0), (Value.int .i64 0), (Value.int .i64 0), (Value.int .i64 0), (Value.int .i64 0), (Value.int .u8 0), (Value.int .i64 0)].toArray) := by kernel_rfl
theorem tv77 : tV Try.prog 77 = some (Value.agg [(Value.int .i64 0), (Value.int .i64 0), (Value.int .i64 0), (Value.int .i64 0), (Value.int .i64 0), (Value.int .i64 0), (Value.int .i64 0), (Value.int .u8 0), (Value.int .i64 0)].toArray) := by kernel_rfl
theorem tv82 : tV Try.prog 82 = some (Value.int .u16 0) := by kernel_rfl
theorem tv88 : tV Try.prog 88 = some (Value.int .u32 0) := by kernel_rfl
theorem tv107 : tV Try.prog 107 = some (Value.agg [(Value.int .u8 0), (Value.int .i64 0), (Value.int .i64 0), (Value.int .i64 0), (Value.int .i64 0), (Value.int .i64 0), (Value.int .i64 0), (Value.int .i64 0), (Value.int .i64 0), (Value.int .i64 0), (Value.int .i64 0), (Value.slice none 0 0), (Value.bool false)].toArray) := by kernel_rfl
theorem tv108 : tV Try.prog 108 = some (Value.agg [(Value.int .u8 0), (Value.int .i64 0), (Value.int .i64 0), (Value.int .i64 0), (Value.int .i64 0), (Value.int .i64 0), (Value.int .i64 0), (Value.int .i64 0), (Value.int .i64 0), (Value.int .i64 0), (Value.int .i64 0), (Value.slice none 0 0), (Value.bool false)].toArray) := by kernel_rfl
theorem tv135 : tV Try.prog 135 = some (Value.agg [(Value.slice none 0 0)].toArray) := by kernel_rfl
theorem tv136 : tV Try.prog 136 = some (Value.agg [(Value.slice none 0 0)].toArray) := by kernel_rfl
theorem tv142 : tV Try.prog 142 = some (Value.agg [(Value.int .u8 0), (Value.int .i64 0), (Value.int .i64 0), (Value.int .i64 0), (Value.int .i64 0)].toArray) := by kernel_rfl
theorem tv143 : tV Try.prog 143 = some (Value.agg [(Value.int .u8 0), (Value.int .i64 0), (Value.int .i64 0), (Value.int .i64 0), (Value.int .i64 0)].toArray) := by kernel_rfl
theorem tv151 : tV Try.prog 151 = some (Value.agg [Value.nilFunc].toArray) := by kernel_rfl
theorem tv170 : tV Try.prog 170 = some (Value.agg [Value.nilFunc].toArray) := by kernel_rfl
theorem tv171 : tV Try.prog 171 = some (Value.agg [Value.nilFunc].toArray) := by kernel_rfl
theorem tv179 : tV Try.prog 179 = some (Value.int .u64 0) := by kernel_rfl
theorem tv186 : tV Try.prog 186 = some (Value.int .i64 0) := by kernel_rfl
theorem tv194 : tV Try.prog 194 = some (Value.int .u64 0) := by kernel_rfl
theorem tv195 : tV Try.prog 195 = some (Value.int .u64 0) := by kernel_rfl
theorem tv207 : tV Try.prog 207 = some (Value.agg [].toArray) := by kernel_rfl
theorem tv208 : tV Try.prog 208 = some (Value.agg [].toArray) := by kernel_rfl
theorem tv210 : tV Try.prog 210 = some (Value.int .u8 0) := by kernel_rfl
theorem tv211 : tV Try.prog 211 = some (Value.int .u8 0) := by kernel_rfl
theorem tv214 : tV Try.prog 214 = some (Value.int .i32 0) := by kernel_rfl
theorem tv215 : tV Try.prog 215 = some (Value.int .i32 0) := by kernel_rfl
theorem tv216 : tV Try.prog 216 = some (Value.agg [(Value.int .u64 0), (Value.int .u64 0), (Value.int .u32 0), (Value.int .u8 0), (Value.int .u8 0), (Value.int .u8 0), (Value.int .u8 0), Value.nilFunc, (Value.pointer none), (Value.int .i32 0), (Value.int .i32 0)].toArray) := by kernel_rfl
theorem tv217 : tV Try.prog 217 = some (Value.agg [(Value.int .u64 0), (Value.int .u64 0), (Value.int .u32 0), (Value.int .u8 0), (Value.int .u8 0), (Value.int .u8 0), (Value.int .u8 0), Value.nilFunc, (Value.pointer none), (Value.int .i32 0), (Value.int .i32 0)].toArray) := by kernel_rfl
theorem tx152 : tX Try.prog 152 = some (2, 151) := by kernel_rfl
theorem tx172 : tX Try.prog 172 = some (3, 171) := by kernel_rfl
theorem tx174 : tX Try.prog 174 = some (13, 3) := by kernel_rfl
theorem tx175 : tX Try.prog 175 = some (13, 174) := by kernel_rfl
theorem tx176 : tX Try.prog 176 = some (13, 174) := by kernel_rfl
theorem tx206 : tX Try.prog 206 = some (0, 16) := by kernel_rfl
theorem tz1 : tZ Try.prog 1 = some [Value.nilFunc] := by kernel_rfl
theorem tz2 : tZ Try.prog 2 = some [(Value.int .i64 0)] := by kernel_rfl
theorem tz3 : tZ Try.prog 3 = some [(Value.int .i64 0)] := by kernel_rfl
theorem tz4 : tZ Try.prog 4 = some [(Value.bool false)] := by kernel_rfl
theorem tz5 : tZ Try.prog 5 = some [(Value.int .u8 0)] := by kernel_rfl
theorem tz6 : tZ Try.prog 6 = some [(Value.int .u8 0)] := by kernel_rfl
theorem tz7 : tZ Try.prog 7 = some [(Value.int .i64 0), (Value.int .i64 0), (Value.bool false), (Value.int .u8 0)] := by kernel_rfl
theorem tz8 : tZ Try.prog 8 = some [(Value.int .i64 0), (Value.int .i64 0), (Value.bool false), (Value.int .u8 0)] := by kernel_rfl
theorem tz12 : tZ Try.prog 12 = some [(Value.int .u64 0)] := by kernel_rfl
theorem tz15 : tZ Try.prog 15 = some [(Value.pointer none)] := by kernel_rfl
theorem tz16 : tZ Try.prog 16 = some [(Value.pointer none)] := by kernel_rfl
theorem tz17 : tZ Try.prog 17 = some [(Value.pointer none)] := by kernel_rfl
theorem tz18 : tZ Try.prog 18 = some [(Value.pointer none)] := by kernel_rfl
theorem tz19 : tZ Try.prog 19 = some [(Value.pointer none)] := by kernel_rfl
theorem tz21 : tZ Try.prog 21 = some [(Value.int .i32 0)] := by kernel_rfl
theorem tz22 : tZ Try.prog 22 = some [(Value.slice none 0 0)] := by kernel_rfl
theorem tz23 : tZ Try.prog 23 = some [(Value.slice none 0 0)] := by kernel_rfl
theorem tz24 : tZ Try.prog 24 = some [(Value.slice none 0 0)] := by kernel_rfl
theorem tz25 : tZ Try.prog 25 = some [(Value.int .i64 0), (Value.int .i64 0)] := by kernel_rfl
theorem tz26 : tZ Try.prog 26 = some [(Value.int .i64 0), (Value.int .i64 0)] := by kernel_rfl
theorem tz27 : tZ Try.prog 27 = some [(Value.int .u8 0), (Value.int .i64 0), (Value.int .i64 0), (Value.int .i64 0), (Value.int .i64 0), (Value.int .i64 0), (Value.int .i64 0), (Value.int .i64 0), (Value.int .i64 0), (Value.int .i64 0), (Value.int .i64 0)] := by kernel_rfl
theorem tz28 : tZ Try.prog 28 = some [(Value.int .u8 0), (Value.int .i64 0), (Value.int .i64 0), (Value.int .i64 0), (Value.int .i64 0), (Value.int .i64 0), (Value.int .i64 0), (Value.int .i64 0), (Value.int .i64 0), (Value.int .i64 0), (Value.int .i64 0)] := by kernel_rfl
theorem tz29 : tZ Try.prog 29 = some [Value.nilFunc] := by kernel_rfl
theorem tz30 : tZ Try.prog 30 = some [Value.nilFunc] := by kernel_rfl
theorem tz31 : tZ Try.prog 31 = some [(Value.slice none 0 0)] := by kernel_rfl
theorem tz32 : tZ Try.prog 32 = some [(Value.int .i64 0)] := by kernel_rfl
theorem tz34 : tZ Try.prog 34 = some [Value.nilFunc] := by kernel_rfl
theorem tz36 : tZ Try.prog 36 = some [Value.nilFunc] := by kernel_rfl
theorem tz38 : tZ Try.prog 38 = some [Value.nilFunc] := by kernel_rfl
theorem tz40 : tZ Try.prog 40 = some [Value.nilFunc] := by kernel_rfl
theorem tz42 : tZ Try.prog 42 = some [Value.nilFunc] := by kernel_rfl
theorem tz44 : tZ Try.prog 44 = some [Value.nilFunc] := by kernel_rfl
theorem tz45 : tZ Try.prog 45 = some [Value.nilFunc] := by kernel_rfl
theorem tz46 : tZ Try.prog 46 = some [Value.nilFunc] := by kernel_rfl
theorem tz47 : tZ Try.prog 47 = some [Value.nilFunc] := by kernel_rfl
theorem tz48 : tZ Try.prog 48 = some [Value.nilFunc] := by kernel_rfl
theorem tz49 : tZ Try.prog 49 = some [Value.nilFunc] := by kernel_rfl
theorem tz50 : tZ Try.prog 50 = some [(Value.slice none 0 0)] := by kernel_rfl
theorem tz52 : tZ Try.prog 52 = some [Value.nilFunc] := by kernel_rfl
theorem tz54 : tZ Try.prog 54 = some [Value.nilFunc] := by kernel_rfl
theorem tz56 : tZ Try.prog 56 = some [Value.nilFunc] := by kernel_rfl
theorem tz58 : tZ Try.prog 58 = some [Value.nilFunc] := by kernel_rfl
theorem tz59 : tZ Try.prog 59 = some [Value.nilFunc] := by kernel_rfl
theorem tz60 : tZ Try.prog 60 = some [Value.nilFunc] := by kernel_rfl
theorem tz61 : tZ Try.prog 61 = some [(Value.slice none 0 0)] := by kernel_rfl
theorem tz63 : tZ Try.prog 63 = some [Value.nilFunc] := by kernel_rfl
theorem tz65 : tZ Try.prog 65 = some [Value.nilFunc] := by kernel_rfl
theorem tz66 : tZ Try.prog 66 = some [Value.nilFunc] := by kernel_rfl
theorem tz67 : tZ Try.prog 67 = some [Value.nilFunc] := by kernel_rfl
theorem tz68 : tZ Try.prog 68 = some [Value.nilFunc] := by kernel_rfl
theorem tz69 : tZ Try.prog 69 = some [Value.nilFunc] := by kernel_rfl
theorem tz70 : tZ Try.prog 70 = some [(Value.slice none 0 0)] := by kernel_rfl
theorem tz71 : tZ Try.prog 71 = some [Value.nilFunc] := by kernel_rfl
theorem tz72 : tZ Try.prog 72 = some [Value.nilFunc] := by kernel_rfl
theorem tz74 : tZ Try.prog 74 = some [Value.nilFunc] := by kernel_rfl
theorem tz75 : tZ Try.prog 75 = some [Value.nilFunc] := by kernel_rfl
theorem tz76 : tZ Try.prog 76 = some [(Value.int .i64 0), (Value.int .i64 0), (Value.int .i64 0), (Value.int .i64 0), (Value.int .i64 0), (Value.int .i64 0), (Value.int .i64 0), (Value.int .u8 0), (Value.int .i64 0)] := by kernel_rfl
theorem tz77 : tZ Try.prog 77 = some [(Value.int .i64 0), (Value.int .i64 0), (Value.int .i64 0), (Value.int .i64 0), (Value.int .i64 0), (Value.int .i64 0), (Value.int .i64 0), (Value.int .u8 0), (Value.int .i64 0)] := by kernel_rfl
theorem tz78 : tZ Try.prog 78 = some [Value.nilFunc] := by kernel_rfl
theorem tz80 : tZ Try.prog 80 = some [Value.nilFunc] := by kernel_rfl
theorem tz81 : tZ Try.prog 81 = some [Value.nilFunc] := by kernel_rfl
theorem tz82 : tZ Try.prog 82 = some [(Value.int .u16 0)] := by kernel_rfl
theorem tz83 : tZ Try.prog 83 = some [Value.nilFunc] := by kernel_rfl
theorem tz84 : tZ Try.prog 84 = some [Value.nilFunc] := by kernel_rfl
theorem tz85 : tZ Try.prog 85 = some [(Value.pointer none)] := by kernel_rfl
theorem tz86 : tZ Try.prog 86 = some [(Value.slice none 0 0)] := by kernel_rfl
theorem tz87 : tZ Try.prog 87 = some [Value.nilFunc] := by kernel_rfl
theorem tz88 : tZ Try.prog 88 = some [(Value.int .u32 0)] := by kernel_rfl
theorem tz89 : tZ Try.prog 89 = some [Value.nilFunc] := by kernel_rfl
theorem tz90 : tZ Try.prog 90 = some [Value.nilFunc] := by kernel_rfl
theorem tz91 : tZ Try.prog 91 = some [Value.nilFunc] := by kernel_rfl
theorem tz93 : tZ Try.prog 93 = some [Value.nilFunc] := by kernel_rfl
theorem tz94 : tZ Try.prog 94 = some [Value.nilFunc] := by kernel_rfl
theorem tz95 : tZ Try.prog 95 = some [Value.nilFunc] := by kernel_rfl
theorem tz96 : tZ Try.prog 96 = some [Value.nilFunc] := by kernel_rfl
theorem tz97 : tZ Try.prog 97 = some [Value.nilFunc] := by kernel_rfl
theorem tz99 : tZ Try.prog 99 = some [Value.nilFunc] := by kernel_rfl
theorem tz100 : tZ Try.prog 100 = some [Value.nilFunc] := by kernel_rfl
theorem tz101 : tZ Try.prog 101 = some [Value.nilFunc] := by kernel_rfl
theorem tz102 : tZ Try.prog 102 = some [Value.nilFunc] := by kernel_rfl
theorem tz103 : tZ Try.prog 103 = some [(Value.slice none 0 0)] := by kernel_rfl
theorem tz104 : tZ Try.prog 104 = some [Value.nilFunc] := by kernel_rfl
theorem tz105 : tZ Try.prog 105 = some [Value.nilFunc] := by kernel_rfl
theorem tz106 : tZ Try.prog 106 = some [Value.nilFunc] := by kernel_rfl
theorem tz107 : tZ Try.prog 107 = some [(Value.int .u8 0), (Value.int .i64 0), (Value.int .i64 0), (Value.int .i64 0), (Value.int .i64 0), (Value.int .i64 0), (Value.int .i64 0), (Value.int .i64 0), (Value.int .i64 0), (Value.int .i64 0), (Value.int .i64 0), (Value.slice none 0 0), (Value.bool false)] := by kernel_rfl
theorem tz108 : tZ Try.prog 108 = some [(Value.int .u8 0), (Value.int .i64 0), (Value.int .i64 0), (Value.int .i64 0), (Value.int .i64 0), (Value.int .i64 0), (Value.int .i64 0), (Value.int .i64 0), (Value.int .i64 0), (Value.int .i64 0), (Value.int .i64 0), (Value.slice none 0 0), (Value.bool false)] := by kernel_rfl
theorem tz110 : tZ Try.prog 110 = some [Value.nilFunc] := by kernel_rfl
theorem tz111 : tZ Try.prog 111 = some [Value.nilFunc] := by kernel_rfl
theorem tz112 : tZ Try.prog 112 = some [Value.nilFunc] := by kernel_rfl
theorem tz113 : tZ Try.prog 113 = some [Value.nilFunc] := by kernel_rfl
theorem tz114 : tZ Try.prog 114 = some [Value.nilFunc] := by kernel_rfl
theorem tz115 : tZ Try.prog 115 = some [Value.nilFunc] := by kernel_rfl
theorem tz116 : tZ Try.prog 116 = some [Value.nilFunc] := by kernel_rfl
theorem tz117 : tZ Try.prog 117 = some [Value.nilFunc] := by kernel_rfl
theorem tz118 : tZ Try.prog 118 = some [Value.nilFunc] := by kernel_rfl
theorem tz120 : tZ Try.prog 120 = some [(Value.map none)] := by kernel_rfl
theorem tz121 : tZ Try.prog 121 = some [Value.nilFunc] := by kernel_rfl
theorem tz122 : tZ Try.prog 122 = some [Value.nilFunc] := by kernel_rfl
theorem tz123 : tZ Try.prog 123 = some [Value.nilFunc] := by kernel_rfl
theorem tz124 : tZ Try.prog 124 = some [Value.nilFunc] := by kernel_rfl
theorem tz125 : tZ Try.prog 125 = some [Value.nilFunc] := by kernel_rfl
theorem tz126 : tZ Try.prog 126 = some [Value.nilFunc] := by kernel_rfl
theorem tz127 : tZ Try.prog 127 = some [Value.nilFunc] := by kernel_rfl
theorem tz128 : tZ Try.prog 128 = some [Value.nilFunc] := by kernel_rfl
theorem tz129 : tZ Try.prog 129 = some [Value.nilFunc] := by kernel_rfl
theorem tz130 : tZ Try.prog 130 = some [Value.nilFunc] := by kernel_rfl
theorem tz131 : tZ Try.prog 131 = some [(Value.pointer none)] := by kernel_rfl
theorem tz132 : tZ Try.prog 132 = some [(Value.slice none 0 0)] := by kernel_rfl
theorem tz133 : tZ Try.prog 133 = some [Value.nilFunc] := by kernel_rfl
theorem tz134 : tZ Try.prog 134 = some [Value.nilFunc] := by kernel_rfl
theorem tz135 : tZ Try.prog 135 = some [(Value.slice none 0 0)] := by kernel_rfl
theorem tz136 : tZ Try.prog 136 = some [(Value.slice none 0 0)] := by kernel_rfl
theorem tz138 : tZ Try.prog 138 = some [Value.nilFunc] := by kernel_rfl
theorem tz139 : tZ Try.prog 139 = some [Value.nilFunc] := by kernel_rfl
theorem tz141 : tZ Try.prog 141 = some [Value.nilFunc] := by kernel_rfl
theorem tz142 : tZ Try.prog 142 = some [(Value.int .u8 0), (Value.int .i64 0), (Value.int .i64 0), (Value.int .i64 0), (Value.int .i64 0)] := by kernel_rfl
theorem tz143 : tZ Try.prog 143 = some [(Value.int .u8 0), (Value.int .i64 0), (Value.int .i64 0), (Value.int .i64 0), (Value.int .i64 0)] := by kernel_rfl
theorem tz144 : tZ Try.prog 144 = some [(Value.map none)] := by kernel_rfl
theorem tz146 : tZ Try.prog 146 = some [Value.nilFunc] := by kernel_rfl
theorem tz148 : tZ Try.prog 148 = some [Value.nilFunc] := by kernel_rfl
theorem tz149 : tZ Try.prog 149 = some [Value.nilFunc] := by kernel_rfl
theorem tz150 : tZ Try.prog 150 = some [Value.nilFunc] := by kernel_rfl
theorem tz151 : tZ Try.prog 151 = some [Value.nilFunc] := by kernel_rfl
theorem tz152 : tZ Try.prog 152 = some [Value.nilFunc, Value.nilFunc] := by kernel_rfl
theorem tz153 : tZ Try.prog 153 = some [Value.nilFunc] := by kernel_rfl
theorem tz154 : tZ Try.prog 154 = some [Value.nilFunc] := by kernel_rfl
theorem tz155 : tZ Try.prog 155 = some [Value.nilFunc] := by kernel_rfl
theorem tz156 : tZ Try.prog 156 = some [(Value.slice none 0 0)] := by kernel_rfl
theorem tz157 : tZ Try.prog 157 = some [Value.nilFunc] := by kernel_rfl
theorem tz158 : tZ Try.prog 158 = some [Value.nilFunc] := by kernel_rfl
theorem tz159 : tZ Try.prog 159 = some [Value.nilFunc] := by kernel_rfl
theorem tz160 : tZ Try.prog 160 = some [Value.nilFunc] := by kernel_rfl
theorem tz161 : tZ Try.prog 161 = some [Value.nilFunc] := by kernel_rfl
theorem tz162 : tZ Try.prog 162 = some [Value.nilFunc] := by kernel_rfl
theorem tz163 : tZ Try.prog 163 = some [Value.nilFunc] := by kernel_rfl
theorem tz164 : tZ Try.prog 164 = some [Value.nilFunc] := by kernel_rfl
theorem tz165 : tZ Try.prog 165 = some [Value.nilFunc] := by kernel_rfl
theorem tz166 : tZ Try.prog 166 = some [Value.nilFunc] := by kernel_rfl
theorem tz167 : tZ Try.prog 167 = some [Value.nilFunc] := by kernel_rfl
theorem tz168 : tZ Try.prog 168 = some [Value.nilFunc] := by kernel_rfl
theorem tz169 : tZ Try.prog 169 = some [Value.nilFunc] := by kernel_rfl
theorem tz170 : tZ Try.prog 170 = some [Value.nilFunc] := by kernel_rfl
theorem tz171 : tZ Try.prog 171 = some [Value.nilFunc] := by kernel_rfl
theorem tz172 : tZ Try.prog 172 = some [Value.nilFunc, Value.nilFunc, Value.nilFunc] := by kernel_rfl
theorem tz173 : tZ Try.prog 173 = some [Value.nilFunc] := by kernel_rfl
theorem tz174 : tZ Try.prog 174 = some [(Value.int .i64 0), (Value.int .i64 0), (Value.int .i64 0), (Value.int .i64 0), (Value.int .i64 0), (Value.int .i64 0), (Value.int .i64 0), (Value.int .i64 0), (Value.int .i64 0), (Value.int .i64 0), (Value.int .i64 0), (Value.int .i64 0), (Value.int .i64 0)] := by kernel_rfl
theorem tz175 : tZ Try.prog 175 = some [(Value.int .i64 0), (Value.int .i64 0), (Value.int .i64 0), (Value.int .i64 0), (Value.int .i64 0), (Value.int .i64 0), (Value.int .i64 0), (Value.int .i64 0), (Value.int .i64 0), (Value.int .i64 0), (Value.int .i64 0), (Value.int .i64 0), (Value.int .i64 0), (Value.int .i64 0), (Value.int .i64 0), (Value.int .i64 0), (Value.int .i64 0), (Value.int .i64 0), (Value.int .i64 0), (Value.int .i64 0), (Value.int .i64 0), (Value.int .i64 0), (Value.int .i64 0), (Value.int .i64 0), (Value.int .i64 0), (Value.int .i64 0), (Value.int .i64 0), (Value.int .i64 0), (Value.int .i64 0), (Value.int .i64 0), (Value.int .i64 0), (Value.int .i64 0), (Value.int .i64 0), (Value.int .i64 0), (Value.int .i64 0), (Value.int .i64 0), (Value.int .i64 0), (Value.int .i64 0), (Value.int .i64 0), (Value.int .i64 0), (Value.int .i64 0), (Value.int .i64 0), (Value.int .i64 0), (Value.int .i64 0), (Value.int .i64 0), (Value.int .i64 0), (Value.int .i64 0), (Value.int .i64 0), (Value.int .i64 0), (Value.int .i64 0), (Value.int .i64 0), (Value.int .i64 0), (Value.int .i64 0), (Value.int .i64 0), (Value.int .i64 0), (Value.int .i64 0), (Value.int .i64 0), (Value.int .i64 0), (Value.int .i64 0), (Value.int .i64 0), (Value.int .i64 0), (Value.int .i64 0), (Value.int .i64 0), (Value.int .i64 0), (Value.int .i64 0), (Value.int .i64 0), (Value.int .i64 0), (Value.int .i64 0), (Value.int .i64 0), (Value.int .i64 0), (Value.int .i64 0), (Value.int .i64 0), (Value.int .i64 0), (Value.int .i64 0), (Value.int .i64 0), (Value.int .i64 0), (Value.int .i64 0), (Value.int .i64 0), (Value.int .i64 0), (Value.int .i64 0), (Value.int .i64 0), (Value.int .i64 0), (Value.int .i64 0), (Value.int .i64 0), (Value.int .i64 0), (Value.int .i64 0), (Value.int .i64 0), (Value.int .i64 0), (Value.int .i64 0), (Value.int .i64 0), (Value.int .i64 0), (Value.int .i64 0), (Value.int .i64 0), (Value.int .i64 0), (Value.int .i64 0), (Value.int .i64 0), (Value.int .i64 0), (Value.int .i64 0), (Value.int .i64 0), (Value.int .i64 0), (Value.int .i64 0), (Value.int .i64 0), (Value.int .i64 0), (Value.int .i64 0), (Value.int .i64 0), (Value.int .i64 0), (Value.int .i64 0), (Value.int .i64 0), (Value.int .i64 0), (Value.int .i64 0), (Value.int .i64 0), (Value.int .i64 0), (Value.int .i64 0), (Value.int .i64 0), (Value.int .i64 0), (Value.int .i64 0), (Value.int .i64 0), (Value.int .i64 0), (Value.int .i64 0), (Value.int .i64 0), (Value.int .i64 0), (Value.int .i64 0), (Value.int .i64 0), (Value.int .i64 0), (Value.int .i64 0), (Value.int .i64 0), (Value.int .i64 0), (Value.int .i64 0), (Value.int .i64 0), (Value.int .i64 0), (Value.int .i64 0), (Value.int .i64 0), (Value.int .i64 0), (Value.int .i64 0), (Value.int .i64 0), (Value.int .i64 0), (Value.int .i64 0), (Value.int .i64 0), (Value.int .i64 0), (Value.int .i64 0), (Value.int .i64 0), (Value.int .i64 0), (Value.int .i64 0), (Value.int .i64 0), (Value.int .i64 0), (Value.int .i64 0), (Value.int .i64 0), (Value.int .i64 0), (Value.int .i64 0), (Value.int .i64 0), (Value.int .i64 0), (Value.int .i64 0), (Value.int .i64 0), (Value.int .i64 0), (Value.int .i64 0), (Value.int .i64 0), (Value.int .i64 0), (Value.int .i64 0), (Value.int .i64 0), (Value.int .i64 0), (Value.int .i64 0), (Value.int .i64 0), (Value.int .i64 0), (Value.int .i64 0), (Value.int .i64 0), (Value.int .i64 0), (Value.int .i64 0), (Value.int .i64 0), (Value.int .i64 0)] := by kernel_rfl
theorem tz176 : tZ Try.prog 176 = some [(Value.int .i64 0), (Value.int .i64 0), (Value.int .i64 0), (Value.int .i64 0), (Value.int .i64 0), (Value.int .i64 0), (Value.int .i64 0), (Value.int .i64 0), (Value.int .i64 0), (Value.int .i64 0), (Value.int .i64 0), (Value.int .i64 0), (Value.int .i64 0), (Value.int .i64 0), (Value.int .i64 0), (Value.int .i64 0), (Value.int .i64 0), (Value.int .i64 0), (Value.int .i64 0), (Value.int .i64 0), (Value.int .i64 0), (Value.int .i64 0), (Value.int .i64 0), (Value.int .i64 0), (Value.int .i64 0), (Value.int .i64 0), (Value.int .i64 0), (Value.int .i64 0), (Value.int .i64 0), (Value.int .i64 0), (Value.int .i64 0), (Value.int .i64 0), (Value.int .i64 0), (Value.int .i64 0), (Value.int .i64 0), (Value.int .i64 0), (Value.int .i64 0), (Value.int .i64 0), (Value.int .i64 0), (Value.int .i64 0), (Value.int .i64 0), (Value.int .i64 0), (Value.int .i64 0), (Value.int .i64 0), (Value.int .i64 0), (Value.int .i64 0), (Value.int .i64 0), (Value.int .i64 0), (Value.int .i64 0), (Value.int .i64 0), (Value.int .i64 0), (Value.int .i64 0), (Value.int .i64 0), (Value.int .i64 0), (Value.int .i64 0), (Value.int .i64 0), (Value.int .i64 0), (Value.int .i64 0), (Value.int .i64 0), (Value.int .i64 0), (Value.int .i64 0), (Value.int .i64 0), (Value.int .i64 0), (Value.int .i64 0), (Value.int .i64 0), (Value.int .i64 0), (Value.int .i64 0), (Value.int .i64 0), (Value.int .i64 0), (Value.int .i64 0), (Value.int .i64 0), (Value.int .i64 0), (Value.int .i64 0), (Value.int .i64 0), (Value.int .i64 0), (Value.int .i64 0), (Value.int .i64 0), (Value.int .i64 0), (Value.int .i64 0), (Value.int .i64 0), (Value.int .i64 0), (Value.int .i64 0), (Value.int .i64 0), (Value.int .i64 0), (Value.int .i64 0), (Value.int .i64 0), (Value.int .i64 0), (Value.int .i64 0), (Value.int .i64 0), (Value.int .i64 0), (Value.int .i64 0), (Value.int .i64 0), (Value.int .i64 0), (Value.int .i64 0), (Value.int .i64 0), (Value.int .i64 0), (Value.int .i64 0), (Value.int .i64 0), (Value.int .i64 0), (Value.int .i64 0), (Value.int .i64 0), (Value.int .i64 0), (Value.int .i64 0), (Value.int .i64 0), (Value.int .i64 0), (Value.int .i64 0), (Value.int .i64 0), (Value.int .i64 0), (Value.int .i64 0), (Value.int .i64 0), (Value.int .i64 0), (Value.int .i64 0), (Value.int .i64 0), (Value.int .i64 0), (Value.int .i64 0), (Value.int .i64 0), (Value.int .i64 0), (Value.int .i64 0), (Value.int .i64 0), (Value.int .i64 0), (Value.int .i64 0), (Value.int .i64 0), (Value.int .i64 0), (Value.int .i64 0), (Value.int .i64 0), (Value.int .i64 0), (Value.int .i64 0), (Value.int .i64 0), (Value.int .i64 0), (Value.int .i64 0), (Value.int .i64 0), (Value.int .i64 0), (Value.int .i64 0), (Value.int .i64 0), (Value.int .i64 0), (Value.int .i64 0), (Value.int .i64 0), (Value.int .i64 0), (Value.int .i64 0), (Value.int .i64 0), (Value.int .i64 0), (Value.int .i64 0), (Value.int .i64 0), (Value.int .i64 0), (Value.int .i64 0), (Value.int .i64 0), (Value.int .i64 0), (Value.int .i64 0), (Value.int .i64 0), (Value.int .i64 0), (Value.int .i64 0), (Value.int .i64 0), (Value.int .i64 0), (Value.int .i64 0), (Value.int .i64 0), (Value.int .i64 0), (Value.int .i64 0), (Value.int .i64 0), (Value.int .i64 0), (Value.int .i64 0), (Value.int .i64 0), (Value.int .i64 0), (Value.int .i64 0), (Value.int .i64 0), (Value.int .i64 0), (Value.int .i64 0), (Value.int .i64 0), (Value.int .i64 0), (Value.int .i64 0)] := by kernel_rfl
theorem tz177 : tZ Try.prog 177 = some [Value.nilFunc] := by kernel_rfl
theorem tz178 : tZ Try.prog 178 = some [Value.nilFunc] := by kernel_rfl
theorem tz179 : tZ Try.prog 179 = some [(Value.int .u64 0)] := by kernel_rfl
theorem tz180 : tZ Try.prog 180 = some [Value.nilFunc] := by kernel_rfl
theorem tz181 : tZ Try.prog 181 = some [Value.nilFunc] := by kernel_rfl
theorem tz182 : tZ Try.prog 182 = some [Value.nilFunc] := by kernel_rfl
theorem tz183 : tZ Try.prog 183 = some [Value.nilFunc] := by kernel_rfl
theorem tz184 : tZ Try.prog 184 = some [(Value.pointer none)] := by kernel_rfl
theorem tz185 : tZ Try.prog 185 = some [Value.nilFunc] := by kernel_rfl
theorem tz186 : tZ Try.prog 186 = some [(Value.int .i64 0)] := by kernel_rfl
theorem tz188 : tZ Try.prog 188 = some [Value.nilFunc] := by kernel_rfl
theorem tz189 : tZ Try.prog 189 = some [Value.nilFunc] := by kernel_rfl
theorem tz190 : tZ Try.prog 190 = some [Value.nilFunc] := by kernel_rfl
theorem tz191 : tZ Try.prog 191 = some [Value.nilFunc] := by kernel_rfl
theorem tz192 : tZ Try.prog 192 = some [Value.nilFunc] := by kernel_rfl
theorem tz193 : tZ Try.prog 193 = some [Value.nilFunc] := by kernel_rfl
theorem tz194 : tZ Try.prog 194 = some [(Value.int .u64 0)] := by kernel_rfl
theorem tz195 : tZ Try.prog 195 = some [(Value.int .u64 0)] := by kernel_rfl
theorem tz196 : tZ Try.prog 196 = some [Value.nilFunc] := by kernel_rfl
theorem tz197 : tZ Try.prog 197 = some [Value.nilFunc] := by kernel_rfl
theorem tz198 : tZ Try.prog 198 = some [Value.nilFunc] := by kernel_rfl
theorem tz199 : tZ Try.prog 199 = some [(Value.pointer none)] := by kernel_rfl
theorem tz200 : tZ Try.prog 200 = some [Value.nilFunc] := by kernel_rfl
theorem tz201 : tZ Try.prog 201 = some [(Value.pointer none)] := by kernel_rfl
theorem tz202 : tZ Try.prog 202 = some [Value.nilFunc] := by kernel_rfl
theorem tz203 : tZ Try.prog 203 = some [Value.nilFunc] := by kernel_rfl
theorem tz206 : tZ Try.prog 206 = some [] := by kernel_rfl
theorem tz207 : tZ Try.prog 207 = some [] := by kernel_rfl
theorem tz208 : tZ Try.prog 208 = some [] := by kernel_rfl
theorem tz209 : tZ Try.prog 209 = some [Value.nilFunc] := by kernel_rfl
theorem tz210 : tZ Try.prog 210 = some [(Value.int .u8 0)] := by kernel_rfl
theorem tz211 : tZ Try.prog 211 = some [(Value.int .u8 0)] := by kernel_rfl
theorem tz212 : tZ Try.prog 212 = some [Value.nilFunc] := by kernel_rfl
theorem tz213 : tZ Try.prog 213 = some [(Value.pointer none)] := by kernel_rfl
theorem tz214 : tZ Try.prog 214 = some [(Value.int .i32 0)] := by kernel_rfl
theorem tz215 : tZ Try.prog 215 = some [(Value.int .i32 0)] := by kernel_rfl
theorem tz216 : tZ Try.prog 216 = some [(Value.int .u64 0), (Value.int .u64 0), (Value.int .u32 0), (Value.int .u8 0), (Value.int .u8 0), (Value.int .u8 0), (Value.int .u8 0), Value.nilFunc, (Value.pointer none), (Value.int .i32 0), (Value.int .i32 0)] := by kernel_rfl
theorem tz217 : tZ Try.prog 217 = some [(Value.int .u64 0), (Value.int .u64 0), (Value.int .u32 0), (Value.int .u8 0), (Value.int .u8 0), (Value.int .u8 0), (Value.int .u8 0), Value.nilFunc, (Value.pointer none), (Value.int .i32 0), (Value.int .i32 0)] := by kernel_rfl
theorem ut2 : Try.prog.underlying 2 = some (.int .i64) := by kernel_rfl
theorem ut3 : Try.prog.underlying 3 = some (.int .i64) := by kernel_rfl
theorem ut4 : Try.prog.underlying 4 = some .bool := by kernel_rfl
theorem ut5 : Try.prog.underlying 5 = some (.int .u8) := by kernel_rfl
theorem ut6 : Try.prog.underlying 6 = some (.int .u8) := by kernel_rfl
theorem ut9 : Try.prog.underlying 9 = some .string := by kernel_rfl
theorem ut10 : Try.prog.underlying 10 = some .string := by kernel_rfl
theorem ut11 : Try.prog.underlying 11 = some .string := by kernel_rfl
theorem ut12 : Try.prog.underlying 12 = some (.int .u64) := by kernel_rfl
theorem ut21 : Try.prog.underlying 21 = some (.int .i32) := by kernel_rfl
theorem ut22 : Try.prog.underlying 22 = some (.slice 77) := by kernel_rfl
theorem ut31 : Try.prog.underlying 31 = some (.slice 26) := by kernel_rfl
theorem ut32 : Try.prog.underlying 32 = some (.int .i64) := by kernel_rfl
theorem ut50 : Try.prog.underlying 50 = some (.slice 28) := by kernel_rfl
theorem ut61 : Try.prog.underlying 61 = some (.slice 3) := by kernel_rfl
theorem ut70 : Try.prog.underlying 70 = some (.slice 88) := by kernel_rfl
theorem ut82 : Try.prog.underlying 82 = some (.int .u16) := by kernel_rfl
theorem ut86 : Try.prog.underlying 86 = some (.slice 24) := by kernel_rfl
theorem ut88 : Try.prog.underlying 88 = some (.int .u32) := by kernel_rfl
theorem ut103 : Try.prog.underlying 103 = some (.slice 143) := by kernel_rfl
theorem ut120 : Try.prog.underlying 120 = some (.map 3 3) := by kernel_rfl
theorem ut132 : Try.prog.underlying 132 = some (.slice 131) := by kernel_rfl
theorem ut144 : Try.prog.underlying 144 = some (.map 3 143) := by kernel_rfl
theorem ut156 : Try.prog.underlying 156 = some (.slice 22) := by kernel_rfl
theorem ut179 : Try.prog.underlying 179 = some (.int .u64) := by kernel_rfl
theorem ut186 : Try.prog.underlying 186 = some (.int .i64) := by kernel_rfl
theorem ut194 : Try.prog.underlying 194 = some (.int .u64) := by kernel_rfl
theorem ut195 : Try.prog.underlying 195 = some (.int .u64) := by kernel_rfl
theorem ut210 : Try.prog.underlying 210 = some (.int .u8) := by kernel_rfl
theorem ut211 : Try.prog.underlying 211 = some (.int .u8) := by kernel_rfl
theorem ut214 : Try.prog.underlying 214 = some (.int .i32) := by kernel_rfl
theorem ut215 : Try.prog.underlying 215 = some (.int .i32) := by kernel_rfl
theorem fl26 : fL Try.prog 26 = some [(3, 0), (3, 1)] := by kernel_rfl
theorem eqI26 (d : Nat) (s z : SpanV) (w : World) : (Op.equalIn (d + 2) 26 (.agg s.cells.toArray) (.agg z.cells.toArray)).run Try.prog w = .ok (decide (s = z)) w := by
  have hc : (decide (s.Lo = z.Lo) && (decide (s.Hi = z.Hi) && true)) = decide (s = z) := by rw [Bool.eq_iff_iff]; simp [SpanV.ext_iff]
  rw [← hc]
  exact eqI_struct (d + 1) fl26 w (eqf_cons w (part_one tk3 rfl w) (part_one tk3 rfl w) (eqI_int _ ut3 w) (eqf_cons w (part_one tk3 rfl w) (part_one tk3 rfl w) (eqI_int _ ut3 w) (eqf_nil w)))
theorem eqs26 (x y : Operand) (s z : SpanV) : BinRun Try.prog .eql 26 x y (.agg s.cells.toArray) (.agg z.cells.toArray) (.bool (decide (s = z))) := eq_struct x y (fL_guard fl26) fun w => eqI26 9998 s z w
theorem nes26 (x y : Operand) (s z : SpanV) : BinRun Try.prog .neq 26 x y (.agg s.cells.toArray) (.agg z.cells.toArray) (.bool (!decide (s = z))) := ne_struct x y (fL_guard fl26) fun w => eqI26 9998 s z w
theorem fl28 : fL Try.prog 28 = some [(5, 0), (26, 1), (26, 3), (26, 5), (26, 7), (26, 9)] := by kernel_rfl
theorem eqI28 (d : Nat) (s z : SledV) (w : World) : (Op.equalIn (d + 3) 28 (.agg s.cells.toArray) (.agg z.cells.toArray)).run Try.prog w = .ok (decide (s = z)) w := by
  have hc : (decide (s.Class = z.Class) && (decide (s.Start = z.Start) && (decide (s.Rub = z.Rub) && (decide (s.Drag = z.Drag) && (decide (s.Weight = z.Weight) && (decide (s.Steer = z.Steer) && true)))))) = decide (s = z) := by rw [Bool.eq_iff_iff]; simp [SledV.ext_iff]
  rw [← hc]
  exact eqI_struct (d + 2) fl28 w (eqf_cons w (part_one tk5 rfl w) (part_one tk5 rfl w) (eqI_int _ ut5 w) (eqf_cons w (part_agg (vs := SpanV.cells s.Start) tk26 rfl w) (part_agg (vs := SpanV.cells z.Start) tk26 rfl w) (eqI26 (d + 0) s.Start z.Start w) (eqf_cons w (part_agg (vs := SpanV.cells s.Rub) tk26 rfl w) (part_agg (vs := SpanV.cells z.Rub) tk26 rfl w) (eqI26 (d + 0) s.Rub z.Rub w) (eqf_cons w (part_agg (vs := SpanV.cells s.Drag) tk26 rfl w) (part_agg (vs := SpanV.cells z.Drag) tk26 rfl w) (eqI26 (d + 0) s.Drag z.Drag w) (eqf_cons w (part_agg (vs := SpanV.cells s.Weight) tk26 rfl w) (part_agg (vs := SpanV.cells z.Weight) tk26 rfl w) (eqI26 (d + 0) s.Weight z.Weight w) (eqf_cons w (part_agg (vs := SpanV.cells s.Steer) tk26 rfl w) (part_agg (vs := SpanV.cells z.Steer) tk26 rfl w) (eqI26 (d + 0) s.Steer z.Steer w) (eqf_nil w)))))))
theorem eqs28 (x y : Operand) (s z : SledV) : BinRun Try.prog .eql 28 x y (.agg s.cells.toArray) (.agg z.cells.toArray) (.bool (decide (s = z))) := eq_struct x y (fL_guard fl28) fun w => eqI28 9997 s z w
theorem nes28 (x y : Operand) (s z : SledV) : BinRun Try.prog .neq 28 x y (.agg s.cells.toArray) (.agg z.cells.toArray) (.bool (!decide (s = z))) := ne_struct x y (fL_guard fl28) fun w => eqI28 9997 s z w
theorem fl77 : fL Try.prog 77 = some [(3, 0), (26, 1), (26, 3), (26, 5), (5, 7), (3, 8)] := by kernel_rfl
theorem eqI77 (d : Nat) (s z : StretchV) (w : World) : (Op.equalIn (d + 3) 77 (.agg s.cells.toArray) (.agg z.cells.toArray)).run Try.prog w = .ok (decide (s = z)) w := by
  have hc : (decide (s.Id = z.Id) && (decide (s.Long = z.Long) && (decide (s.Fall = z.Fall) && (decide (s.Radius = z.Radius) && (decide (s.Side = z.Side) && (decide (s.Wall = z.Wall) && true)))))) = decide (s = z) := by rw [Bool.eq_iff_iff]; simp [StretchV.ext_iff]
  rw [← hc]
  exact eqI_struct (d + 2) fl77 w (eqf_cons w (part_one tk3 rfl w) (part_one tk3 rfl w) (eqI_int _ ut3 w) (eqf_cons w (part_agg (vs := SpanV.cells s.Long) tk26 rfl w) (part_agg (vs := SpanV.cells z.Long) tk26 rfl w) (eqI26 (d + 0) s.Long z.Long w) (eqf_cons w (part_agg (vs := SpanV.cells s.Fall) tk26 rfl w) (part_agg (vs := SpanV.cells z.Fall) tk26 rfl w) (eqI26 (d + 0) s.Fall z.Fall w) (eqf_cons w (part_agg (vs := SpanV.cells s.Radius) tk26 rfl w) (part_agg (vs := SpanV.cells z.Radius) tk26 rfl w) (eqI26 (d + 0) s.Radius z.Radius w) (eqf_cons w (part_one tk5 rfl w) (part_one tk5 rfl w) (eqI_int _ ut5 w) (eqf_cons w (part_one tk3 rfl w) (part_one tk3 rfl w) (eqI_int _ ut3 w) (eqf_nil w)))))))
theorem eqs77 (x y : Operand) (s z : StretchV) : BinRun Try.prog .eql 77 x y (.agg s.cells.toArray) (.agg z.cells.toArray) (.bool (decide (s = z))) := eq_struct x y (fL_guard fl77) fun w => eqI77 9997 s z w
theorem nes77 (x y : Operand) (s z : StretchV) : BinRun Try.prog .neq 77 x y (.agg s.cells.toArray) (.agg z.cells.toArray) (.bool (!decide (s = z))) := ne_struct x y (fL_guard fl77) fun w => eqI77 9997 s z w
theorem mixed : Try.prog.follows .mixedOrders = true := by kernel_rfl
end Go.Proofs.Ytpbgdeojcefnmaa
