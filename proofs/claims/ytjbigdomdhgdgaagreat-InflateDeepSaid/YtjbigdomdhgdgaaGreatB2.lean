/-
  A part of the proof.
-/
import Derived.Test.YtjbigdomdhgdgaaGreatB1
import Derived.Test.YtjbigdomdhgdgaaGreatProg
import Derived.KernelRfl
set_option linter.unusedSimpArgs false
set_option linter.unusedVariables false
set_option linter.unusedSectionVars false
namespace Go.Sx
open Go Go.Proofs
theorem c2 : compF Tryz.prog 2 = some x2 := by kernel_rfl
theorem c3 : compF Tryz.prog 3 = some x3 := by kernel_rfl
theorem c4 : compF Tryz.prog 4 = some x4 := by kernel_rfl
theorem c5 : compF Tryz.prog 5 = some x5 := by kernel_rfl
theorem c6 : compF Tryz.prog 6 = some x6 := by kernel_rfl
theorem c7 : compF Tryz.prog 7 = some x7 := by kernel_rfl
theorem c8 : compF Tryz.prog 8 = some x8 := by kernel_rfl
theorem c9 : compF Tryz.prog 9 = some x9 := by kernel_rfl
theorem c10 : compF Tryz.prog 10 = some x10 := by kernel_rfl
theorem c11 : compF Tryz.prog 11 = some x11 := by kernel_rfl
theorem c12 : compF Tryz.prog 12 = some x12 := by kernel_rfl
theorem c13 : compF Tryz.prog 13 = some x13 := by kernel_rfl
theorem c14 : compF Tryz.prog 14 = some x14 := by kernel_rfl
theorem c15 : compF Tryz.prog 15 = some x15 := by kernel_rfl
theorem c16 : compF Tryz.prog 16 = some x16 := by kernel_rfl
theorem c17 : compF Tryz.prog 17 = some x17 := by kernel_rfl
theorem c18 : compF Tryz.prog 18 = some x18 := by kernel_rfl
theorem c19 : compF Tryz.prog 19 = some x19 := by kernel_rfl
theorem c20 : compF Tryz.prog 20 = some x20 := by kernel_rfl
theorem c21 : compF Tryz.prog 21 = some x21 := by kernel_rfl
theorem c22 : compF Tryz.prog 22 = some x22 := by kernel_rfl
theorem c23 : compF Tryz.prog 23 = some x23 := by kernel_rfl
theorem c24 : compF Tryz.prog 24 = some x24 := by kernel_rfl
theorem c25 : compF Tryz.prog 25 = some x25 := by kernel_rfl
theorem c26 : compF Tryz.prog 26 = some x26 := by kernel_rfl
theorem c27 : compF Tryz.prog 27 = some x27 := by kernel_rfl
theorem c28 : compF Tryz.prog 28 = some x28 := by kernel_rfl
theorem c29 : compF Tryz.prog 29 = some x29 := by kernel_rfl
theorem c30 : compF Tryz.prog 30 = some x30 := by kernel_rfl
theorem c31 : compF Tryz.prog 31 = some x31 := by kernel_rfl
theorem c32 : compF Tryz.prog 32 = some x32 := by kernel_rfl
theorem c33 : compF Tryz.prog 33 = some x33 := by kernel_rfl
theorem c34 : compF Tryz.prog 34 = some x34 := by kernel_rfl
theorem c35 : compF Tryz.prog 35 = some x35 := by kernel_rfl
theorem c36 : compF Tryz.prog 36 = some x36 := by kernel_rfl
theorem c37 : compF Tryz.prog 37 = some x37 := by kernel_rfl
theorem c38 : compF Tryz.prog 38 = some x38 := by kernel_rfl
theorem c39 : compF Tryz.prog 39 = some x39 := by kernel_rfl
theorem c40 : compF Tryz.prog 40 = some x40 := by kernel_rfl
theorem c41 : compF Tryz.prog 41 = some x41 := by kernel_rfl
theorem c42 : compF Tryz.prog 42 = some x42 := by kernel_rfl
theorem c43 : compF Tryz.prog 43 = some x43 := by kernel_rfl
theorem c44 : compF Tryz.prog 44 = some x44 := by kernel_rfl
theorem c45 : compF Tryz.prog 45 = some x45 := by kernel_rfl
theorem c46 : compF Tryz.prog 46 = some x46 := by kernel_rfl
theorem c47 : compF Tryz.prog 47 = some x47 := by kernel_rfl
theorem c48 : compF Tryz.prog 48 = some x48 := by kernel_rfl
theorem c49 : compF Tryz.prog 49 = some x49 := by kernel_rfl
theorem c50 : compF Tryz.prog 50 = some x50 := by kernel_rfl
theorem c51 : compF Tryz.prog 51 = some x51 := by kernel_rfl
theorem c52 : compF Tryz.prog 52 = some x52 := by kernel_rfl
theorem c53 : compF Tryz.prog 53 = some x53 := by kernel_rfl
theorem c54 : compF Tryz.prog 54 = some x54 := by kernel_rfl
theorem c55 : compF Tryz.prog 55 = some x55 := by kernel_rfl
theorem c56 : compF Tryz.prog 56 = some x56 := by kernel_rfl
theorem c57 : compF Tryz.prog 57 = some x57 := by kernel_rfl
theorem c58 : compF Tryz.prog 58 = some x58 := by kernel_rfl
theorem c59 : compF Tryz.prog 59 = some x59 := by kernel_rfl
theorem c60 : compF Tryz.prog 60 = some x60 := by kernel_rfl
theorem c61 : compF Tryz.prog 61 = some x61 := by kernel_rfl
theorem c62 : compF Tryz.prog 62 = some x62 := by kernel_rfl
theorem c63 : compF Tryz.prog 63 = some x63 := by kernel_rfl
theorem c64 : compF Tryz.prog 64 = some x64 := by kernel_rfl
theorem c65 : compF Tryz.prog 65 = some x65 := by kernel_rfl
theorem c66 : compF Tryz.prog 66 = some x66 := by kernel_rfl
end Go.Sx
namespace Go.Sx
open Go Go.Proofs
theorem c67 : compF Tryz.prog 67 = some x67 := by kernel_rfl
theorem c68 : compF Tryz.prog 68 = some x68 := by kernel_rfl
theorem c69 : compF Tryz.prog 69 = some x69 := by kernel_rfl
theorem c70 : compF Tryz.prog 70 = some x70 := by kernel_rfl
theorem c71 : compF Tryz.prog 71 = some x71 := by kernel_rfl
theorem c72 : compF Tryz.prog 72 = some x72 := by kernel_rfl
theorem c73 : compF Tryz.prog 73 = some x73 := by kernel_rfl
theorem c74 : compF Tryz.prog 74 = some x74 := by kernel_rfl
theorem c75 : compF Tryz.prog 75 = some x75 := by kernel_rfl
theorem c76 : compF Tryz.prog 76 = some x76 := by kernel_rfl
theorem c77 : compF Tryz.prog 77 = some x77 := by kernel_rfl
theorem c78 : compF Tryz.prog 78 = some x78 := by kernel_rfl
theorem c79 : compF Tryz.prog 79 = some x79 := by kernel_rfl
theorem c80 : compF Tryz.prog 80 = some x80 := by kernel_rfl
theorem c81 : compF Tryz.prog 81 = some x81 := by kernel_rfl
theorem c82 : compF Tryz.prog 82 = some x82 := by kernel_rfl
theorem c83 : compF Tryz.prog 83 = some x83 := by kernel_rfl
theorem c84 : compF Tryz.prog 84 = some x84 := by kernel_rfl
theorem c85 : compF Tryz.prog 85 = some x85 := by kernel_rfl
theorem c86 : compF Tryz.prog 86 = some x86 := by kernel_rfl
theorem c87 : compF Tryz.prog 87 = some x87 := by kernel_rfl
theorem c88 : compF Tryz.prog 88 = some x88 := by kernel_rfl
theorem c89 : compF Tryz.prog 89 = some x89 := by kernel_rfl
theorem c90 : compF Tryz.prog 90 = some x90 := by kernel_rfl
theorem c91 : compF Tryz.prog 91 = some x91 := by kernel_rfl
theorem c92 : compF Tryz.prog 92 = some x92 := by kernel_rfl
theorem c93 : compF Tryz.prog 93 = some x93 := by kernel_rfl
theorem c94 : compF Tryz.prog 94 = some x94 := by kernel_rfl
theorem c95 : compF Tryz.prog 95 = some x95 := by kernel_rfl
theorem c96 : compF Tryz.prog 96 = some x96 := by kernel_rfl
theorem c97 : compF Tryz.prog 97 = some x97 := by kernel_rfl
theorem c98 : compF Tryz.prog 98 = some x98 := by kernel_rfl
theorem c99 : compF Tryz.prog 99 = some x99 := by kernel_rfl
theorem c100 : compF Tryz.prog 100 = some x100 := by kernel_rfl
theorem c101 : compF Tryz.prog 101 = some x101 := by kernel_rfl
theorem c102 : compF Tryz.prog 102 = some x102 := by kernel_rfl
theorem c103 : compF Tryz.prog 103 = some x103 := by kernel_rfl
theorem c104 : compF Tryz.prog 104 = some x104 := by kernel_rfl
theorem c105 : compF Tryz.prog 105 = some x105 := by kernel_rfl
theorem c106 : compF Tryz.prog 106 = some x106 := by kernel_rfl
theorem c107 : compF Tryz.prog 107 = some x107 := by kernel_rfl
theorem c108 : compF Tryz.prog 108 = some x108 := by kernel_rfl
theorem c109 : compF Tryz.prog 109 = some x109 := by kernel_rfl
theorem c110 : compF Tryz.prog 110 = some x110 := by kernel_rfl
theorem c111 : compF Tryz.prog 111 = some x111 := by kernel_rfl
theorem c112 : compF Tryz.prog 112 = some x112 := by kernel_rfl
theorem c113 : compF Tryz.prog 113 = some x113 := by kernel_rfl
theorem c114 : compF Tryz.prog 114 = some x114 := by kernel_rfl
theorem c115 : compF Tryz.prog 115 = some x115 := by kernel_rfl
theorem c116 : compF Tryz.prog 116 = some x116 := by kernel_rfl
theorem c117 : compF Tryz.prog 117 = some x117 := by kernel_rfl
theorem c118 : compF Tryz.prog 118 = some x118 := by kernel_rfl
theorem c119 : compF Tryz.prog 119 = some x119 := by kernel_rfl
theorem c120 : compF Tryz.prog 120 = some x120 := by kernel_rfl
theorem c121 : compF Tryz.prog 121 = some x121 := by kernel_rfl
theorem c122 : compF Tryz.prog 122 = some x122 := by kernel_rfl
theorem c123 : compF Tryz.prog 123 = some x123 := by kernel_rfl
theorem c124 : compF Tryz.prog 124 = some x124 := by kernel_rfl
theorem c125 : compF Tryz.prog 125 = some x125 := by kernel_rfl
theorem c126 : compF Tryz.prog 126 = some x126 := by kernel_rfl
theorem c127 : compF Tryz.prog 127 = some x127 := by kernel_rfl
theorem c128 : compF Tryz.prog 128 = some x128 := by kernel_rfl
theorem c129 : compF Tryz.prog 129 = some x129 := by kernel_rfl
theorem c130 : compF Tryz.prog 130 = some x130 := by kernel_rfl
theorem c131 : compF Tryz.prog 131 = some x131 := by kernel_rfl
end Go.Sx
namespace Go.Sx
open Go Go.Proofs
theorem c132 : compF Tryz.prog 132 = some x132 := by kernel_rfl
theorem c133 : compF Tryz.prog 133 = some x133 := by kernel_rfl
theorem c134 : compF Tryz.prog 134 = some x134 := by kernel_rfl
theorem c135 : compF Tryz.prog 135 = some x135 := by kernel_rfl
theorem c136 : compF Tryz.prog 136 = some x136 := by kernel_rfl
theorem c137 : compF Tryz.prog 137 = some x137 := by kernel_rfl
theorem c138 : compF Tryz.prog 138 = some x138 := by kernel_rfl
theorem c139 : compF Tryz.prog 139 = some x139 := by kernel_rfl
theorem c140 : compF Tryz.prog 140 = some x140 := by kernel_rfl
theorem c141 : compF Tryz.prog 141 = some x141 := by kernel_rfl
theorem c142 : compF Tryz.prog 142 = some x142 := by kernel_rfl
theorem c143 : compF Tryz.prog 143 = some x143 := by kernel_rfl
theorem c144 : compF Tryz.prog 144 = some x144 := by kernel_rfl
theorem c145 : compF Tryz.prog 145 = some x145 := by kernel_rfl
theorem c146 : compF Tryz.prog 146 = some x146 := by kernel_rfl
theorem c147 : compF Tryz.prog 147 = some x147 := by kernel_rfl
theorem c148 : compF Tryz.prog 148 = some x148 := by kernel_rfl
theorem c149 : compF Tryz.prog 149 = some x149 := by kernel_rfl
theorem c150 : compF Tryz.prog 150 = some x150 := by kernel_rfl
theorem c151 : compF Tryz.prog 151 = some x151 := by kernel_rfl
theorem c152 : compF Tryz.prog 152 = some x152 := by kernel_rfl
theorem c153 : compF Tryz.prog 153 = some x153 := by kernel_rfl
theorem c154 : compF Tryz.prog 154 = some x154 := by kernel_rfl
theorem c155 : compF Tryz.prog 155 = some x155 := by kernel_rfl
theorem c156 : compF Tryz.prog 156 = some x156 := by kernel_rfl
theorem c157 : compF Tryz.prog 157 = some x157 := by kernel_rfl
theorem c158 : compF Tryz.prog 158 = some x158 := by kernel_rfl
theorem c159 : compF Tryz.prog 159 = some x159 := by kernel_rfl
theorem c160 : compF Tryz.prog 160 = some x160 := by kernel_rfl
theorem c161 : compF Tryz.prog 161 = some x161 := by kernel_rfl
theorem c162 : compF Tryz.prog 162 = some x162 := by kernel_rfl
theorem c163 : compF Tryz.prog 163 = some x163 := by kernel_rfl
theorem c164 : compF Tryz.prog 164 = some x164 := by kernel_rfl
theorem c165 : compF Tryz.prog 165 = some x165 := by kernel_rfl
theorem c166 : compF Tryz.prog 166 = some x166 := by kernel_rfl
theorem c167 : compF Tryz.prog 167 = some x167 := by kernel_rfl
theorem c168 : compF Tryz.prog 168 = some x168 := by kernel_rfl
theorem c169 : compF Tryz.prog 169 = some x169 := by kernel_rfl
theorem c170 : compF Tryz.prog 170 = some x170 := by kernel_rfl
theorem c171 : compF Tryz.prog 171 = some x171 := by kernel_rfl
theorem c172 : compF Tryz.prog 172 = some x172 := by kernel_rfl
theorem c173 : compF Tryz.prog 173 = some x173 := by kernel_rfl
theorem c174 : compF Tryz.prog 174 = some x174 := by kernel_rfl
theorem c175 : compF Tryz.prog 175 = some x175 := by kernel_rfl
theorem c176 : compF Tryz.prog 176 = some x176 := by kernel_rfl
theorem c177 : compF Tryz.prog 177 = some x177 := by kernel_rfl
theorem c178 : compF Tryz.prog 178 = some x178 := by kernel_rfl
theorem c179 : compF Tryz.prog 179 = some x179 := by kernel_rfl
theorem c180 : compF Tryz.prog 180 = some x180 := by kernel_rfl
theorem c181 : compF Tryz.prog 181 = some x181 := by kernel_rfl
theorem c182 : compF Tryz.prog 182 = some x182 := by kernel_rfl
theorem c183 : compF Tryz.prog 183 = some x183 := by kernel_rfl
theorem c184 : compF Tryz.prog 184 = some x184 := by kernel_rfl
theorem c185 : compF Tryz.prog 185 = some x185 := by kernel_rfl
theorem c186 : compF Tryz.prog 186 = some x186 := by kernel_rfl
theorem c187 : compF Tryz.prog 187 = some x187 := by kernel_rfl
theorem c188 : compF Tryz.prog 188 = some x188 := by kernel_rfl
theorem c189 : compF Tryz.prog 189 = some x189 := by kernel_rfl
theorem c190 : compF Tryz.prog 190 = some x190 := by kernel_rfl
theorem c191 : compF Tryz.prog 191 = some x191 := by kernel_rfl
theorem c192 : compF Tryz.prog 192 = some x192 := by kernel_rfl
theorem c193 : compF Tryz.prog 193 = some x193 := by kernel_rfl
theorem c194 : compF Tryz.prog 194 = some x194 := by kernel_rfl
theorem c195 : compF Tryz.prog 195 = some x195 := by kernel_rfl
theorem c196 : compF Tryz.prog 196 = some x196 := by kernel_rfl
end Go.Sx
namespace Go.Sx
open Go Go.Proofs
theorem c197 : compF Tryz.prog 197 = some x197 := by kernel_rfl
theorem c198 : compF Tryz.prog 198 = some x198 := by kernel_rfl
theorem c199 : compF Tryz.prog 199 = some x199 := by kernel_rfl
theorem c200 : compF Tryz.prog 200 = some x200 := by kernel_rfl
theorem c201 : compF Tryz.prog 201 = some x201 := by kernel_rfl
theorem c202 : compF Tryz.prog 202 = some x202 := by kernel_rfl
theorem c203 : compF Tryz.prog 203 = some x203 := by kernel_rfl
theorem c204 : compF Tryz.prog 204 = some x204 := by kernel_rfl
theorem c205 : compF Tryz.prog 205 = some x205 := by kernel_rfl
theorem c206 : compF Tryz.prog 206 = some x206 := by kernel_rfl
theorem c207 : compF Tryz.prog 207 = some x207 := by kernel_rfl
theorem c208 : compF Tryz.prog 208 = some x208 := by kernel_rfl
theorem c209 : compF Tryz.prog 209 = some x209 := by kernel_rfl
theorem c210 : compF Tryz.prog 210 = some x210 := by kernel_rfl
theorem c211 : compF Tryz.prog 211 = some x211 := by kernel_rfl
theorem c212 : compF Tryz.prog 212 = some x212 := by kernel_rfl
theorem c213 : compF Tryz.prog 213 = some x213 := by kernel_rfl
theorem c214 : compF Tryz.prog 214 = some x214 := by kernel_rfl
theorem c215 : compF Tryz.prog 215 = some x215 := by kernel_rfl
theorem c216 : compF Tryz.prog 216 = some x216 := by kernel_rfl
theorem c217 : compF Tryz.prog 217 = some x217 := by kernel_rfl
theorem c218 : compF Tryz.prog 218 = some x218 := by kernel_rfl
theorem c219 : compF Tryz.prog 219 = some x219 := by kernel_rfl
theorem c220 : compF Tryz.prog 220 = some x220 := by kernel_rfl
theorem c221 : compF Tryz.prog 221 = some x221 := by kernel_rfl
theorem c222 : compF Tryz.prog 222 = some x222 := by kernel_rfl
theorem c223 : compF Tryz.prog 223 = some x223 := by kernel_rfl
theorem c224 : compF Tryz.prog 224 = some x224 := by kernel_rfl
theorem c225 : compF Tryz.prog 225 = some x225 := by kernel_rfl
theorem c226 : compF Tryz.prog 226 = some x226 := by kernel_rfl
theorem c227 : compF Tryz.prog 227 = some x227 := by kernel_rfl
theorem c228 : compF Tryz.prog 228 = some x228 := by kernel_rfl
theorem c229 : compF Tryz.prog 229 = some x229 := by kernel_rfl
theorem c230 : compF Tryz.prog 230 = some x230 := by kernel_rfl
theorem c232 : compF Tryz.prog 232 = some x232 := by kernel_rfl
theorem c233 : compF Tryz.prog 233 = some x233 := by kernel_rfl
theorem c235 : compF Tryz.prog 235 = some x235 := by kernel_rfl
theorem c236 : compF Tryz.prog 236 = some x236 := by kernel_rfl
theorem c237 : compF Tryz.prog 237 = some x237 := by kernel_rfl
theorem c238 : compF Tryz.prog 238 = some x238 := by kernel_rfl
theorem c239 : compF Tryz.prog 239 = some x239 := by kernel_rfl
theorem c240 : compF Tryz.prog 240 = some x240 := by kernel_rfl
theorem c241 : compF Tryz.prog 241 = some x241 := by kernel_rfl
theorem c242 : compF Tryz.prog 242 = some x242 := by kernel_rfl
theorem c243 : compF Tryz.prog 243 = some x243 := by kernel_rfl
theorem c244 : compF Tryz.prog 244 = some x244 := by kernel_rfl
theorem c245 : compF Tryz.prog 245 = some x245 := by kernel_rfl
theorem c246 : compF Tryz.prog 246 = some x246 := by kernel_rfl
theorem c247 : compF Tryz.prog 247 = some x247 := by kernel_rfl
theorem c248 : compF Tryz.prog 248 = some x248 := by kernel_rfl
theorem c249 : compF Tryz.prog 249 = some x249 := by kernel_rfl
theorem c250 : compF Tryz.prog 250 = some x250 := by kernel_rfl
theorem c258 : compF Tryz.prog 258 = some x258 := by kernel_rfl
theorem c259 : compF Tryz.prog 259 = some x259 := by kernel_rfl
theorem c260 : compF Tryz.prog 260 = some x260 := by kernel_rfl
theorem c261 : compF Tryz.prog 261 = some x261 := by kernel_rfl
theorem c280 : compF Tryz.prog 280 = some x280 := by kernel_rfl
theorem c281 : compF Tryz.prog 281 = some x281 := by kernel_rfl
theorem c282 : compF Tryz.prog 282 = some x282 := by kernel_rfl
theorem c283 : compF Tryz.prog 283 = some x283 := by kernel_rfl
theorem c285 : compF Tryz.prog 285 = some x285 := by kernel_rfl
theorem c286 : compF Tryz.prog 286 = some x286 := by kernel_rfl
theorem c287 : compF Tryz.prog 287 = some x287 := by kernel_rfl
theorem c288 : compF Tryz.prog 288 = some x288 := by kernel_rfl
end Go.Sx
namespace Go.Sx
open Go Go.Proofs
theorem tabOK : TabOK Tryz.prog tab := OKT.ok ⟨.inl rfl, ⟨.inl rfl, ⟨.inr c3, ⟨.inr c7, ⟨.inr c15, ⟨.inr c31, ⟨.inr c63, ⟨.inr c127, trivial, trivial⟩, ⟨.inr c191, trivial, trivial⟩⟩, ⟨.inr c95, ⟨.inr c159, ⟨.inr c287, trivial, trivial⟩, trivial⟩, ⟨.inr c223, trivial, trivial⟩⟩⟩, ⟨.inr c47, ⟨.inr c79, ⟨.inr c143, trivial, trivial⟩, ⟨.inr c207, trivial, trivial⟩⟩, ⟨.inr c111, ⟨.inr c175, trivial, trivial⟩, ⟨.inr c239, trivial, trivial⟩⟩⟩⟩, ⟨.inr c23, ⟨.inr c39, ⟨.inr c71, ⟨.inr c135, trivial, trivial⟩, ⟨.inr c199, trivial, trivial⟩⟩, ⟨.inr c103, ⟨.inr c167, trivial, trivial⟩, trivial⟩⟩, ⟨.inr c55, ⟨.inr c87, ⟨.inr c151, trivial, trivial⟩, ⟨.inr c215, trivial, trivial⟩⟩, ⟨.inr c119, ⟨.inr c183, trivial, trivial⟩, ⟨.inr c247, trivial, trivial⟩⟩⟩⟩⟩, ⟨.inr c11, ⟨.inr c19, ⟨.inr c35, ⟨.inr c67, ⟨.inr c131, ⟨.inr c259, trivial, trivial⟩, trivial⟩, ⟨.inr c195, trivial, trivial⟩⟩, ⟨.inr c99, ⟨.inr c163, trivial, trivial⟩, ⟨.inr c227, trivial, trivial⟩⟩⟩, ⟨.inr c51, ⟨.inr c83, ⟨.inr c147, trivial, trivial⟩, ⟨.inr c211, trivial, trivial⟩⟩, ⟨.inr c115, ⟨.inr c179, trivial, trivial⟩, ⟨.inr c243, trivial, trivial⟩⟩⟩⟩, ⟨.inr c27, ⟨.inr c43, ⟨.inr c75, ⟨.inr c139, trivial, trivial⟩, ⟨.inr c203, trivial, trivial⟩⟩, ⟨.inr c107, ⟨.inr c171, trivial, trivial⟩, ⟨.inr c235, trivial, trivial⟩⟩⟩, ⟨.inr c59, ⟨.inr c91, ⟨.inr c155, ⟨.inr c283, trivial, trivial⟩, trivial⟩, ⟨.inr c219, trivial, trivial⟩⟩, ⟨.inr c123, ⟨.inr c187, trivial, trivial⟩, trivial⟩⟩⟩⟩⟩, ⟨.inr c5, ⟨.inr c9, ⟨.inr c17, ⟨.inr c33, ⟨.inr c65, ⟨.inr c129, trivial, trivial⟩, ⟨.inr c193, trivial, trivial⟩⟩, ⟨.inr c97, ⟨.inr c161, trivial, trivial⟩, ⟨.inr c225, trivial, trivial⟩⟩⟩, ⟨.inr c49, ⟨.inr c81, ⟨.inr c145, trivial, trivial⟩, ⟨.inr c209, trivial, trivial⟩⟩, ⟨.inr c113, ⟨.inr c177, trivial, trivial⟩, ⟨.inr c241, trivial, trivial⟩⟩⟩⟩, ⟨.inr c25, ⟨.inr c41, ⟨.inr c73, ⟨.inr c137, trivial, trivial⟩, ⟨.inr c201, trivial, trivial⟩⟩, ⟨.inr c105, ⟨.inr c169, trivial, trivial⟩, ⟨.inr c233, trivial, trivial⟩⟩⟩, ⟨.inr c57, ⟨.inr c89, ⟨.inr c153, ⟨.inr c281, trivial, trivial⟩, trivial⟩, ⟨.inr c217, trivial, trivial⟩⟩, ⟨.inr c121, ⟨.inr c185, trivial, trivial⟩, ⟨.inr c249, trivial, trivial⟩⟩⟩⟩⟩, ⟨.inr c13, ⟨.inr c21, ⟨.inr c37, ⟨.inr c69, ⟨.inr c133, ⟨.inr c261, trivial, trivial⟩, trivial⟩, ⟨.inr c197, trivial, trivial⟩⟩, ⟨.inr c101, ⟨.inr c165, trivial, trivial⟩, ⟨.inr c229, trivial, trivial⟩⟩⟩, ⟨.inr c53, ⟨.inr c85, ⟨.inr c149, trivial, trivial⟩, ⟨.inr c213, trivial, trivial⟩⟩, ⟨.inr c117, ⟨.inr c181, trivial, trivial⟩, ⟨.inr c245, trivial, trivial⟩⟩⟩⟩, ⟨.inr c29, ⟨.inr c45, ⟨.inr c77, ⟨.inr c141, trivial, trivial⟩, ⟨.inr c205, trivial, trivial⟩⟩, ⟨.inr c109, ⟨.inr c173, trivial, trivial⟩, ⟨.inr c237, trivial, trivial⟩⟩⟩, ⟨.inr c61, ⟨.inr c93, ⟨.inr c157, ⟨.inr c285, trivial, trivial⟩, trivial⟩, ⟨.inr c221, trivial, trivial⟩⟩, ⟨.inr c125, ⟨.inr c189, trivial, trivial⟩, trivial⟩⟩⟩⟩⟩⟩, ⟨.inr c2, ⟨.inr c4, ⟨.inr c8, ⟨.inr c16, ⟨.inr c32, ⟨.inr c64, ⟨.inr c128, trivial, trivial⟩, ⟨.inr c192, trivial, trivial⟩⟩, ⟨.inr c96, ⟨.inr c160, ⟨.inr c288, trivial, trivial⟩, trivial⟩, ⟨.inr c224, trivial, trivial⟩⟩⟩, ⟨.inr c48, ⟨.inr c80, ⟨.inr c144, trivial, trivial⟩, ⟨.inr c208, trivial, trivial⟩⟩, ⟨.inr c112, ⟨.inr c176, trivial, trivial⟩, ⟨.inr c240, trivial, trivial⟩⟩⟩⟩, ⟨.inr c24, ⟨.inr c40, ⟨.inr c72, ⟨.inr c136, trivial, trivial⟩, ⟨.inr c200, trivial, trivial⟩⟩, ⟨.inr c104, ⟨.inr c168, trivial, trivial⟩, ⟨.inr c232, trivial, trivial⟩⟩⟩, ⟨.inr c56, ⟨.inr c88, ⟨.inr c152, ⟨.inr c280, trivial, trivial⟩, trivial⟩, ⟨.inr c216, trivial, trivial⟩⟩, ⟨.inr c120, ⟨.inr c184, trivial, trivial⟩, ⟨.inr c248, trivial, trivial⟩⟩⟩⟩⟩, ⟨.inr c12, ⟨.inr c20, ⟨.inr c36, ⟨.inr c68, ⟨.inr c132, ⟨.inr c260, trivial, trivial⟩, trivial⟩, ⟨.inr c196, trivial, trivial⟩⟩, ⟨.inr c100, ⟨.inr c164, trivial, trivial⟩, ⟨.inr c228, trivial, trivial⟩⟩⟩, ⟨.inr c52, ⟨.inr c84, ⟨.inr c148, trivial, trivial⟩, ⟨.inr c212, trivial, trivial⟩⟩, ⟨.inr c116, ⟨.inr c180, trivial, trivial⟩, ⟨.inr c244, trivial, trivial⟩⟩⟩⟩, ⟨.inr c28, ⟨.inr c44, ⟨.inr c76, ⟨.inr c140, trivial, trivial⟩, ⟨.inr c204, trivial, trivial⟩⟩, ⟨.inr c108, ⟨.inr c172, trivial, trivial⟩, ⟨.inr c236, trivial, trivial⟩⟩⟩, ⟨.inr c60, ⟨.inr c92, ⟨.inr c156, trivial, trivial⟩, ⟨.inr c220, trivial, trivial⟩⟩, ⟨.inr c124, ⟨.inr c188, trivial, trivial⟩, trivial⟩⟩⟩⟩⟩, ⟨.inr c6, ⟨.inr c10, ⟨.inr c18, ⟨.inr c34, ⟨.inr c66, ⟨.inr c130, ⟨.inr c258, trivial, trivial⟩, trivial⟩, ⟨.inr c194, trivial, trivial⟩⟩, ⟨.inr c98, ⟨.inr c162, trivial, trivial⟩, ⟨.inr c226, trivial, trivial⟩⟩⟩, ⟨.inr c50, ⟨.inr c82, ⟨.inr c146, trivial, trivial⟩, ⟨.inr c210, trivial, trivial⟩⟩, ⟨.inr c114, ⟨.inr c178, trivial, trivial⟩, ⟨.inr c242, trivial, trivial⟩⟩⟩⟩, ⟨.inr c26, ⟨.inr c42, ⟨.inr c74, ⟨.inr c138, trivial, trivial⟩, ⟨.inr c202, trivial, trivial⟩⟩, ⟨.inr c106, ⟨.inr c170, trivial, trivial⟩, trivial⟩⟩, ⟨.inr c58, ⟨.inr c90, ⟨.inr c154, ⟨.inr c282, trivial, trivial⟩, trivial⟩, ⟨.inr c218, trivial, trivial⟩⟩, ⟨.inr c122, ⟨.inr c186, trivial, trivial⟩, ⟨.inr c250, trivial, trivial⟩⟩⟩⟩⟩, ⟨.inr c14, ⟨.inr c22, ⟨.inr c38, ⟨.inr c70, ⟨.inr c134, trivial, trivial⟩, ⟨.inr c198, trivial, trivial⟩⟩, ⟨.inr c102, ⟨.inr c166, trivial, trivial⟩, ⟨.inr c230, trivial, trivial⟩⟩⟩, ⟨.inr c54, ⟨.inr c86, ⟨.inr c150, trivial, trivial⟩, ⟨.inr c214, trivial, trivial⟩⟩, ⟨.inr c118, ⟨.inr c182, trivial, trivial⟩, ⟨.inr c246, trivial, trivial⟩⟩⟩⟩, ⟨.inr c30, ⟨.inr c46, ⟨.inr c78, ⟨.inr c142, trivial, trivial⟩, ⟨.inr c206, trivial, trivial⟩⟩, ⟨.inr c110, ⟨.inr c174, trivial, trivial⟩, ⟨.inr c238, trivial, trivial⟩⟩⟩, ⟨.inr c62, ⟨.inr c94, ⟨.inr c158, ⟨.inr c286, trivial, trivial⟩, trivial⟩, ⟨.inr c222, trivial, trivial⟩⟩, ⟨.inr c126, ⟨.inr c190, trivial, trivial⟩, trivial⟩⟩⟩⟩⟩⟩⟩
theorem mixed : Tryz.prog.follows .mixedOrders = true := by kernel_rfl
theorem snd (asm : Asm) : Snd Tryz.prog asm (ev tab asm 1000000) := sound tabOK mixed 1000000
theorem sndX (asm : Asm) (fx : Cmd → Option Out) (h : Known Tryz.prog asm fx) : Snd Tryz.prog asm (evX tab asm fx 1000000) := evX_sound tabOK mixed h 1000000
end Go.Sx
