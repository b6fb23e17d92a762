/- Lemmas. -/
import Derived.Test.YtlgpgjdggilkgaaGreatDoorProg
import Derived.KernelRfl
import Derived.Test.YtlgpgjdggilkgaaGreatDoorErai
import Derived.Sort.Grow
import Derived.Lib.SlicesCompact
set_option linter.all false
namespace Go.Proofs.YtlgpgjdggilkgaaGreatDoor
section
open Go.V
noncomputable abbrev Ε:=Tryz.prog
instance:Iv Ε 3:=⟨λ_=>Γ,Γ⟩
instance:LP Ε 3 .i64:=⟨Γ⟩
instance:I5 Ε 3 [E 0]:=⟨Γ⟩
instance:Iv Ε 4:=⟨λ_=>Γ,Γ⟩
instance:Iv Ε 5:=⟨λ_=>Γ,Γ⟩
instance:LP Ε 5 .u8:=⟨Γ⟩
instance:Iv Ε 9:=⟨λ_=>Γ,Γ⟩
instance:Pc Ε 9:=⟨Γ⟩
instance:Iv Ε 22:=⟨λ_=>Γ,Γ⟩
instance:IJ Ε 22 3 1 8 [E 0]:=⟨Γ,Γ,by decide,by decide⟩
instance:I5 Ε 22 [ae none 0 0]:=⟨Γ⟩
instance:IJ Ε 27 34 5 56 [E 0,E 0,E 0,ae none 0 0,E 0]:=⟨Γ,Γ,by decide,by decide⟩
instance:Iv Ε 29:=⟨λ_=>Γ,Γ⟩
instance:I5 Ε 29 [E 0]:=⟨Γ⟩
instance:Iv Ε 32:=⟨λ_=>Γ,Γ⟩
instance:IJ Ε 32 65 5 56 [E 0,E 0,E 0,E 0,ae none 0 0]:=⟨Γ,Γ,by decide,by decide⟩
instance:Jb Ε 34 5:=⟨λ_=>Γ,Γ⟩
instance:bD Ε 34 0 0:=bD.of 0 Γ
instance:bD Ε 34 1 1:=bD.of 0 Γ
instance:bD Ε 34 2 2:=bD.of 0 Γ
instance:bD Ε 34 3 3:=bD.of 0 Γ
instance:bD Ε 34 4 4:=bD.of 0 Γ
instance:Kf Ε 34 [(0,1),(1,1),(2,1),(3,1),(4,1)]:=⟨Γ⟩
instance:I5 Ε 34 [E 0,E 0,E 0,ae none 0 0,E 0]:=⟨Γ⟩
instance:Iv Ε 35:=⟨λ_=>Γ,Γ⟩
instance:IJ Ε 35 47 3 24 [E 0,E 0,E 0]:=⟨Γ,Γ,by decide,by decide⟩
instance:I5 Ε 35 [ae none 0 0]:=⟨Γ⟩
instance:Iv Ε 36:=⟨λ_=>Γ,Γ⟩
instance:IJ Ε 36 45 11 120 [E 0,E 0,E 0,E 0,E 0,E 0,E 0,E 0,E 0,ae none 0 0,ae none 0 0]:=⟨Γ,Γ,by decide,by decide⟩
instance:Iv Ε 37:=⟨λ_=>Γ,Γ⟩
instance:Pb Ε 37:=⟨⟨130,Γ⟩⟩
instance:Iv Ε 38:=⟨λ_=>Γ,Γ⟩
instance:IJ Ε 38 37 1 8 [.pointer none]:=⟨Γ,Γ,by decide,by decide⟩
instance:Iv Ε 39:=⟨λ_=>Γ,Γ⟩
instance:IJ Ε 39 62 1 8 [.pointer none]:=⟨Γ,Γ,by decide,by decide⟩
instance:Iv Ε 40:=⟨λ_=>Γ,Γ⟩
instance:IJ Ε 40 98 3 40 [E 0,E 0,ae none 0 0]:=⟨Γ,Γ,by decide,by decide⟩
instance:I5 Ε 40 [ae none 0 0]:=⟨Γ⟩
instance:bD Ε 42 0 0:=bD.of 0 Γ
instance:bD Ε 42 1 1:=bD.of 0 Γ
instance:bD Ε 42 2 2:=bD.of 0 Γ
instance:bD Ε 42 3 3:=bD.of 0 Γ
instance:bD Ε 42 4 4:=bD.of 0 Γ
instance:Kf Ε 42 [(0,1),(1,1),(2,1),(3,1),(4,1)]:=⟨Γ⟩
instance:I5 Ε 42 [ae none 0 0,ae none 0 0,ae none 0 0,E 0,ae none 0 0]:=⟨Γ⟩
instance:Jb Ε 45 11:=⟨λ_=>Γ,Γ⟩
instance:bD Ε 45 0 0:=bD.of 0 Γ
instance:bD Ε 45 2 2:=bD.of 0 Γ
instance:bD Ε 45 8 8:=bD.of 0 Γ
instance:bD Ε 45 9 9:=bD.of 0 Γ
instance:bD Ε 45 10 10:=bD.of 0 Γ
instance:Kf Ε 45 [(0,1),(1,1),(2,1),(3,1),(4,1),(5,1),(6,1),(7,1),(8,1),(9,1),(10,1)]:=⟨Γ⟩
instance:I5 Ε 45 [E 0,E 0,E 0,E 0,E 0,E 0,E 0,E 0,E 0,ae none 0 0,ae none 0 0]:=⟨Γ⟩
instance:Jb Ε 47 3:=⟨λ_=>Γ,Γ⟩
instance:bD Ε 47 0 0:=bD.of 0 Γ
instance:bD Ε 47 1 1:=bD.of 0 Γ
instance:bD Ε 47 2 2:=bD.of 0 Γ
instance:Kf Ε 47 [(0,1),(1,1),(2,1)]:=⟨Γ⟩
instance:I5 Ε 47 [E 0,E 0,E 0]:=⟨Γ⟩
instance:Iv Ε 48:=⟨λ_=>Γ,Γ⟩
instance:IJ Ε 56 73 3 24 [E 0,E 0,E 0]:=⟨Γ,Γ,by decide,by decide⟩
instance:LP Ε 61 .u64:=⟨Γ⟩
instance:Iv Ε 62:=⟨λ_=>Γ,Γ⟩
instance:Pb Ε 62:=⟨⟨147,Γ⟩⟩
instance:Iv Ε 63:=⟨λ_=>Γ,Γ⟩
instance:IJ Ε 63 67 2 16 [E 0,E 0]:=⟨Γ,Γ,by decide,by decide⟩
instance:Jb Ε 65 5:=⟨λ_=>Γ,Γ⟩
instance:bD Ε 65 0 0:=bD.of 0 Γ
instance:bD Ε 65 1 1:=bD.of 0 Γ
instance:bD Ε 65 2 2:=bD.of 0 Γ
instance:bD Ε 65 3 3:=bD.of 0 Γ
instance:bD Ε 65 4 4:=bD.of 0 Γ
instance:Kf Ε 65 [(0,1),(1,1),(2,1),(3,1),(4,1)]:=⟨Γ⟩
instance:I5 Ε 65 [E 0,E 0,E 0,E 0,ae none 0 0]:=⟨Γ⟩
instance:Jb Ε 67 2:=⟨λ_=>Γ,Γ⟩
instance:bD Ε 67 0 0:=bD.of 0 Γ
instance:bD Ε 67 1 1:=bD.of 0 Γ
instance:Kf Ε 67 [(0,1),(1,1)]:=⟨Γ⟩
instance:I5 Ε 67 [E 0,E 0]:=⟨Γ⟩
instance:Jb Ε 73 3:=⟨λ_=>Γ,Γ⟩
instance:bD Ε 73 0 0:=bD.of 0 Γ
instance:bD Ε 73 1 1:=bD.of 0 Γ
instance:Kf Ε 73 [(0,1),(1,1),(2,1)]:=⟨Γ⟩
instance:I5 Ε 73 [E 0,E 0,E 0]:=⟨Γ⟩
instance:Iv Ε 85:=⟨λ_=>Γ,Γ⟩
instance:IJ Ε 85 134 5 56 [E 0,E 0,E 0,E 0,ae none 0 0]:=⟨Γ,Γ,by decide,by decide⟩
instance:Jb Ε 87 7:=⟨λ_=>Γ,Γ⟩
instance:bD Ε 87 0 0:=bD.of 0 Γ
instance:bD Ε 87 1 1:=bD.of 0 Γ
instance:bD Ε 87 2 2:=bD.of 0 Γ
instance:bD Ε 87 3 3:=bD.of 0 Γ
instance:bD Ε 87 4 4:=bD.of 0 Γ
instance:bD Ε 87 5 5:=bD.of 0 Γ
instance:bD Ε 87 6 6:=bD.of 0 Γ
instance:Kf Ε 87 [(0,1),(1,1),(2,1),(3,1),(4,1),(5,1),(6,1)]:=⟨Γ⟩
instance:I5 Ε 87 [E 0,E 0,E 0,E 0,E 0,E 0,ae none 0 0]:=⟨Γ⟩
instance:Iv Ε 89:=⟨λ_=>Γ,Γ⟩
instance:IJ Ε 89 135 5 56 [E 0,E 0,E 0,E 0,ae none 0 0]:=⟨Γ,Γ,by decide,by decide⟩
instance:Iv Ε 96:=⟨λ_=>Γ,Γ⟩
instance:IJ Ε 96 5 1 1 [.int .u8 0]:=⟨Γ,Γ,by decide,by decide⟩
instance:Jb Ε 98 3:=⟨λ_=>Γ,Γ⟩
instance:bD Ε 98 0 0:=bD.of 0 Γ
instance:bD Ε 98 1 1:=bD.of 0 Γ
instance:bD Ε 98 2 2:=bD.of 0 Γ
instance:Kf Ε 98 [(0,1),(1,1),(2,1)]:=⟨Γ⟩
instance:I5 Ε 98 [E 0,E 0,ae none 0 0]:=⟨Γ⟩
instance:Iv Ε 111:=⟨λ_=>Γ,Γ⟩
instance:IJ Ε 111 214 7 48 [.string ⟨#[]⟩,.bool false,.bool false,.bool false,E 0,E 0,E 0]:=⟨Γ,Γ,by decide,by decide⟩
instance:Iv Ε 112:=⟨λ_=>Γ,Γ⟩
instance:IJ Ε 112 267 9 128 [.string ⟨#[]⟩,.bool false,E 0,E 0,E 0,E 0,ae none 0 0,ae none 0 0,ae none 0 0]:=⟨Γ,Γ,by decide,by decide⟩
instance:Iv Ε 113:=⟨λ_=>Γ,Γ⟩
instance:IJ Ε 113 272 2 40 [.string ⟨#[]⟩,ae none 0 0]:=⟨Γ,Γ,by decide,by decide⟩
instance:Iv Ε 114:=⟨λ_=>Γ,Γ⟩
instance:IJ Ε 114 277 2 40 [.string ⟨#[]⟩,ae none 0 0]:=⟨Γ,Γ,by decide,by decide⟩
instance:Jb Ε 116 4:=⟨λ_=>Γ,Γ⟩
instance:bD Ε 116 0 0:=bD.of 0 Γ
instance:bD Ε 116 1 1:=bD.of 0 Γ
instance:bD Ε 116 2 2:=bD.of 0 Γ
instance:bD Ε 116 3 3:=bD.of 0 Γ
instance:Kf Ε 116 [(0,1),(1,1),(2,1),(3,1)]:=⟨Γ⟩
instance:I5 Ε 116 [ae none 0 0,ae none 0 0,ae none 0 0,ae none 0 0]:=⟨Γ⟩
instance:Iv Ε 118:=⟨λ_=>Γ,Γ⟩
instance:IJ Ε 118 87 7 72 [E 0,E 0,E 0,E 0,E 0,E 0,ae none 0 0]:=⟨Γ,Γ,by decide,by decide⟩
instance:Iv Ε 126:=⟨λ_=>Γ,Γ⟩
instance:Pd Ε 126 137 35:=⟨Γ⟩
instance:Iv Ε 127:=⟨λ_=>Γ,Γ⟩
instance:Pd Ε 127 3 3:=⟨Γ⟩
instance:Iv Ε 128:=⟨λ_=>Γ,Γ⟩
instance:Pd Ε 128 3 35:=⟨Γ⟩
instance:bD Ε 130 0 0:=bD.of 0 Γ
instance:bD Ε 130 1 1:=bD.of 3 Γ
instance:bD Ε 130 2 5:=bD.of 0 Γ
instance:bD Ε 130 3 6:=bD.of 0 Γ
instance:bD Ε 130 4 7:=bD.of 0 Γ
instance:bD Ε 130 5 8:=bD.of 0 Γ
instance:bD Ε 130 6 9:=bD.of 0 Γ
instance:bD Ε 130 7 10:=bD.of 0 Γ
instance:Kf Ε 130 [(0,1),(1,4),(5,1),(6,1),(7,1),(8,1),(9,1),(10,1)]:=⟨Γ⟩
instance:I5 Ε 130 [E 0,ae none 0 0,ae none 0 0,ae none 0 0,ae none 0 0,.map none,.map none,ae none 0 0,ae none 0 0,.map none,.map none]:=⟨Γ⟩
instance:Jb Ε 134 5:=⟨λ_=>Γ,Γ⟩
instance:bD Ε 134 0 0:=bD.of 0 Γ
instance:bD Ε 134 1 1:=bD.of 0 Γ
instance:bD Ε 134 2 2:=bD.of 0 Γ
instance:bD Ε 134 3 3:=bD.of 0 Γ
instance:bD Ε 134 4 4:=bD.of 0 Γ
instance:Kf Ε 134 [(0,1),(1,1),(2,1),(3,1),(4,1)]:=⟨Γ⟩
instance:I5 Ε 134 [E 0,E 0,E 0,E 0,ae none 0 0]:=⟨Γ⟩
instance:Jb Ε 135 5:=⟨λ_=>Γ,Γ⟩
instance:bD Ε 135 0 0:=bD.of 0 Γ
instance:bD Ε 135 1 1:=bD.of 0 Γ
instance:bD Ε 135 2 2:=bD.of 0 Γ
instance:bD Ε 135 3 3:=bD.of 0 Γ
instance:bD Ε 135 4 4:=bD.of 0 Γ
instance:Kf Ε 135 [(0,1),(1,1),(2,1),(3,1),(4,1)]:=⟨Γ⟩
instance:I5 Ε 135 [E 0,E 0,E 0,E 0,ae none 0 0]:=⟨Γ⟩
instance:Jb Ε 137 2:=⟨λ_=>Γ,Γ⟩
instance:bD Ε 137 0 0:=bD.of 0 Γ
instance:bD Ε 137 1 1:=bD.of 0 Γ
instance:Kf Ε 137 [(0,1),(1,1)]:=⟨Γ⟩
instance:I5 Ε 137 [E 0,E 0]:=⟨Γ⟩
instance:Pb Ε 141:=⟨⟨150,Γ⟩⟩
instance:Iv Ε 143:=⟨λ_=>Γ,Γ⟩
instance:Iv Ε 144:=⟨λ_=>Γ,Γ⟩
instance:Iv Ε 145:=⟨λ_=>Γ,Γ⟩
instance:bD Ε 147 0 0:=bD.of 0 Γ
instance:bD Ε 147 1 1:=bD.of 0 Γ
instance:bD Ε 147 2 2:=bD.of 0 Γ
instance:bD Ε 147 3 3:=bD.of 0 Γ
instance:bD Ε 147 4 4:=bD.of 0 Γ
instance:bD Ε 147 5 5:=bD.of 0 Γ
instance:bD Ε 147 6 6:=bD.of 0 Γ
instance:bD Ε 147 7 7:=bD.of 0 Γ
instance:Kf Ε 147 [(0,1),(1,1),(2,1),(3,1),(4,1),(5,1),(6,1),(7,1)]:=⟨Γ⟩
instance:I5 Ε 147 [.pointer none,E 0,E 0,E 0,E 0,.map none,.map none,.map none]:=⟨Γ⟩
instance:Iv Ε 148:=⟨λ_=>Γ,Γ⟩
instance:bD Ε 150 0 0:=bD.of 0 Γ
instance:bD Ε 150 1 1:=bD.of 0 Γ
instance:bD Ε 150 2 2:=bD.of 0 Γ
instance:bD Ε 150 3 3:=bD.of 0 Γ
instance:bD Ε 150 4 4:=bD.of 0 Γ
instance:bD Ε 150 5 5:=bD.of 0 Γ
instance:bD Ε 150 6 6:=bD.of 0 Γ
instance:Kf Ε 150 [(0,1),(1,1),(2,1),(3,1),(4,1),(5,1),(6,1)]:=⟨Γ⟩
instance:I5 Ε 150 [ae none 0 0,ae none 0 0,E 0,.map none,.map none,.bool false,.bool false]:=⟨Γ⟩
instance:Iv Ε 153:=⟨λ_=>Γ,Γ⟩
instance:IJ Ε 153 197 8 96 [E 0,E 0,E 0,E 0,ae none 0 0,E 0,E 0,ae none 0 0]:=⟨Γ,Γ,by decide,by decide⟩
instance:bD Ε 155 0 0:=bD.of 0 Γ
instance:bD Ε 155 1 1:=bD.of 0 Γ
instance:bD Ε 155 2 2:=bD.of 0 Γ
instance:Kf Ε 155 [(0,1),(1,1),(2,1)]:=⟨Γ⟩
instance:I5 Ε 155 [E 0,E 0,ae none 0 0]:=⟨Γ⟩
instance:Jb Ε 157 2:=⟨λ_=>Γ,Γ⟩
instance:bD Ε 157 0 0:=bD.of 0 Γ
instance:Kf Ε 157 [(0,1),(1,1)]:=⟨Γ⟩
instance:I5 Ε 157 [E 0,E 0]:=⟨Γ⟩
instance:Iv Ε 159:=⟨λ_=>Γ,Γ⟩
instance:bD Ε 178 0 0:=bD.of 0 Γ
instance:bD Ε 178 1 1:=bD.of 6 Γ
instance:bD Ε 178 2 8:=bD.of 0 Γ
instance:bD Ε 178 3 9:=bD.of 0 Γ
instance:bD Ε 178 4 10:=bD.of 0 Γ
instance:bD Ε 178 5 11:=bD.of 0 Γ
instance:bD Ε 178 6 12:=bD.of 0 Γ
instance:bD Ε 178 7 13:=bD.of 0 Γ
instance:Kf Ε 178 [(0,1),(1,7),(8,1),(9,1),(10,1),(11,1),(12,1),(13,1)]:=⟨Γ⟩
instance:I5 Ε 178 [.pointer none,E 0,E 0,E 0,E 0,E 0,E 0,ae none 0 0,.map none,.map none,.map none,.map none,ae none 0 0,ae none 0 0]:=⟨Γ⟩
instance:Jb Ε 197 8:=⟨λ_=>Γ,Γ⟩
instance:bD Ε 197 0 0:=bD.of 4 Γ
instance:bD Ε 197 1 5:=bD.of 0 Γ
instance:bD Ε 197 2 6:=bD.of 0 Γ
instance:bD Ε 197 3 7:=bD.of 0 Γ
instance:Kf Ε 197 [(0,5),(5,1),(6,1),(7,1)]:=⟨Γ⟩
instance:I5 Ε 197 [E 0,E 0,E 0,E 0,ae none 0 0,E 0,E 0,ae none 0 0]:=⟨Γ⟩
instance:Iv Ε 202:=⟨λ_=>Γ,Γ⟩
instance:IJ Ε 202 293 1 8 [.int .u64 0]:=⟨Γ,Γ,by decide,by decide⟩
instance:I5 Ε 202 [ae none 0 0]:=⟨Γ⟩
instance:Jb Ε 214 7:=⟨λ_=>Γ,Γ⟩
instance:bD Ε 214 0 0:=bD.of 0 Γ
instance:bD Ε 214 1 1:=bD.of 0 Γ
instance:bD Ε 214 2 2:=bD.of 0 Γ
instance:bD Ε 214 3 3:=bD.of 0 Γ
instance:bD Ε 214 4 4:=bD.of 0 Γ
instance:bD Ε 214 5 5:=bD.of 0 Γ
instance:bD Ε 214 6 6:=bD.of 0 Γ
instance:Kf Ε 214 [(0,1),(1,1),(2,1),(3,1),(4,1),(5,1),(6,1)]:=⟨Γ⟩
instance:I5 Ε 214 [.string ⟨#[]⟩,.bool false,.bool false,.bool false,E 0,E 0,E 0]:=⟨Γ⟩
instance:Jb Ε 222 6:=⟨λ_=>Γ,Γ⟩
instance:bD Ε 222 0 0:=bD.of 0 Γ
instance:bD Ε 222 1 1:=bD.of 0 Γ
instance:bD Ε 222 2 2:=bD.of 0 Γ
instance:bD Ε 222 3 3:=bD.of 0 Γ
instance:bD Ε 222 4 4:=bD.of 0 Γ
instance:bD Ε 222 5 5:=bD.of 0 Γ
instance:Kf Ε 222 [(0,1),(1,1),(2,1),(3,1),(4,1),(5,1)]:=⟨Γ⟩
instance:I5 Ε 222 [E 0,E 0,E 0,.bool false,ae none 0 0,ae none 0 0]:=⟨Γ⟩
instance:Iv Ε 248:=⟨λ_=>Γ,Γ⟩
instance:I5 Ε 248 [.nilFunc]:=⟨Γ⟩
instance:Iv Ε 293:=⟨λ_=>Γ,Γ⟩
instance:LP Ε 293 .u64:=⟨Γ⟩
instance:Iv Ε 297:=⟨λ_=>Γ,Γ⟩
instance:Jb Ε 299 4:=⟨λ_=>Γ,Γ⟩
instance:bD Ε 299 0 0:=bD.of 0 Γ
instance:bD Ε 299 1 1:=bD.of 0 Γ
instance:bD Ε 299 2 2:=bD.of 0 Γ
instance:bD Ε 299 3 3:=bD.of 0 Γ
instance:Kf Ε 299 [(0,1),(1,1),(2,1),(3,1)]:=⟨Γ⟩
instance:I5 Ε 299 [.nilFunc,.nilFunc,.bool false,.nilFunc]:=⟨Γ⟩
instance:Iv Ε 330:=⟨λ_=>Γ,Γ⟩
instance:I5 Ε 330 [.nilFunc]:=⟨Γ⟩
instance:bD Ε 363 0 0:=bD.of 0 Γ
instance:bD Ε 363 1 1:=bD.of 0 Γ
instance:Kf Ε 363 [(0,1),(1,1)]:=⟨Γ⟩
instance:I5 Ε 363 [ae none 0 0,E 0]:=⟨Γ⟩
instance:bD Ε 368 0 0:=bD.of 0 Γ
instance:Kf Ε 368 [(0,1)]:=⟨Γ⟩
instance:I5 Ε 368 [ae none 0 0]:=⟨Γ⟩
instance:Iv Ε 370:=⟨λ_=>Γ,Γ⟩
instance:IJ Ε 370 374 4 40 [E 0,.string ⟨#[]⟩,E 0,E 0]:=⟨Γ,Γ,by decide,by decide⟩
instance:I5 Ε 370 [ae none 0 0]:=⟨Γ⟩
instance:Jb Ε 374 4:=⟨λ_=>Γ,Γ⟩
instance:bD Ε 374 0 0:=bD.of 0 Γ
instance:bD Ε 374 1 1:=bD.of 0 Γ
instance:Kf Ε 374 [(0,1),(1,1),(2,1),(3,1)]:=⟨Γ⟩
instance:I5 Ε 374 [E 0,.string ⟨#[]⟩,E 0,E 0]:=⟨Γ⟩
instance UK:En Ε 7 Tryz.f7 259:=⟨λ_ _=>Γ,Tryz.func7,rfl⟩
instance UL:En Ε 10 Tryz.f10 13:=⟨λ_ _=>Γ,Tryz.func10,rfl⟩
instance UM:En Ε 11 Tryz.f11 94:=⟨λ_ _=>Γ,Tryz.func11,rfl⟩
instance UN:En Ε 12 Tryz.f12 81:=⟨λ_ _=>Γ,Tryz.func12,rfl⟩
instance UO:En Ε 13 Tryz.f13 195:=⟨λ_ _=>Γ,Tryz.func13,rfl⟩
instance UP:En Ε 16 Tryz.f16 26:=⟨λ_ _=>Γ,Tryz.func16,rfl⟩
instance UQ:En Ε 17 Tryz.f17 8:=⟨λ_ _=>Γ,Tryz.func17,rfl⟩
instance UR:En Ε 20 Tryz.f20 149:=⟨λ_ _=>Γ,Tryz.func20,rfl⟩
instance RQ:En Ε 21 Tryz.f21 35:=⟨λ_ _=>Γ,Tryz.func21,rfl⟩
instance US:En Ε 22 Tryz.f22 103:=⟨λ_ _=>Γ,Tryz.func22,rfl⟩
instance UT:En Ε 23 Tryz.f23 62:=⟨λ_ _=>Γ,Tryz.func23,rfl⟩
instance UU:En Ε 24 Tryz.f24 7:=⟨λ_ _=>Γ,Tryz.func24,rfl⟩
instance UW:En Ε 26 Tryz.f26 74:=⟨λ_ _=>Γ,Tryz.func26,rfl⟩
instance UX:En Ε 30 Tryz.f30 100:=⟨λ_ _=>Γ,Tryz.func30,rfl⟩
instance UY:En Ε 31 Tryz.f31 22:=⟨λ_ _=>Γ,Tryz.func31,rfl⟩
instance UZ:En Ε 35 Tryz.f35 41:=⟨λ_ _=>Γ,Tryz.func35,rfl⟩
instance U0:En Ε 38 Tryz.f38 43:=⟨λ_ _=>Γ,Tryz.func38,rfl⟩
instance QT:En Ε 39 Tryz.f39 43:=⟨λ_ _=>Γ,Tryz.func39,rfl⟩
instance U1:En Ε 41 Tryz.f41 113:=⟨λ_ _=>Γ,Tryz.func41,rfl⟩
instance U2:En Ε 46 Tryz.f46 27:=⟨λ_ _=>Γ,Tryz.func46,rfl⟩
instance U3:En Ε 47 Tryz.f47 7:=⟨λ_ _=>Γ,Tryz.func47,rfl⟩
instance U4:En Ε 48 Tryz.f48 32:=⟨λ_ _=>Γ,Tryz.func48,rfl⟩
instance U5:En Ε 49 Tryz.f49 35:=⟨λ_ _=>Γ,Tryz.func49,rfl⟩
instance U6:En Ε 50 Tryz.f50 89:=⟨λ_ _=>Γ,Tryz.func50,rfl⟩
instance U7:En Ε 51 Tryz.f51 41:=⟨λ_ _=>Γ,Tryz.func51,rfl⟩
instance U8:En Ε 52 Tryz.f52 29:=⟨λ_ _=>Γ,Tryz.func52,rfl⟩
instance U9:En Ε 53 Tryz.f53 12:=⟨λ_ _=>Γ,Tryz.func53,rfl⟩
instance Va:En Ε 54 Tryz.f54 18:=⟨λ_ _=>Γ,Tryz.func54,rfl⟩
instance Vb:En Ε 55 Tryz.f55 18:=⟨λ_ _=>Γ,Tryz.func55,rfl⟩
instance Vc:En Ε 56 Tryz.f56 80:=⟨λ_ _=>Γ,Tryz.func56,rfl⟩
instance Vd:En Ε 58 Tryz.f58 16:=⟨λ_ _=>Γ,Tryz.func58,rfl⟩
def Tw:Enters Ε 59:=λ_ _=>Γ
instance Tx:En Ε 60 Tryz.f60 17:=⟨λ_ _=>Γ,Tryz.func60,rfl⟩
instance Ve:En Ε 61 Tryz.f61 18:=⟨λ_ _=>Γ,Tryz.func61,rfl⟩
instance Vf:En Ε 62 Tryz.f62 20:=⟨λ_ _=>Γ,Tryz.func62,rfl⟩
instance Vg:En Ε 63 Tryz.f63 42:=⟨λ_ _=>Γ,Tryz.func63,rfl⟩
instance Vh:En Ε 64 Tryz.f64 34:=⟨λ_ _=>Γ,Tryz.func64,rfl⟩
instance Vi:En Ε 65 Tryz.f65 8:=⟨λ_ _=>Γ,Tryz.func65,rfl⟩
instance Vj:En Ε 66 Tryz.f66 62:=⟨λ_ _=>Γ,Tryz.func66,rfl⟩
instance Vk:En Ε 67 Tryz.f67 21:=⟨λ_ _=>Γ,Tryz.func67,rfl⟩
instance Vl:En Ε 68 Tryz.f68 39:=⟨λ_ _=>Γ,Tryz.func68,rfl⟩
instance Vm:En Ε 69 Tryz.f69 33:=⟨λ_ _=>Γ,Tryz.func69,rfl⟩
instance Vn:En Ε 76 Tryz.f76 62:=⟨λ_ _=>Γ,Tryz.func76,rfl⟩
instance Vo:En Ε 77 Tryz.f77 16:=⟨λ_ _=>Γ,Tryz.func77,rfl⟩
instance Vp:En Ε 78 Tryz.f78 16:=⟨λ_ _=>Γ,Tryz.func78,rfl⟩
instance Vq:En Ε 84 Tryz.f84 8:=⟨λ_ _=>Γ,Tryz.func84,rfl⟩
instance Vr:En Ε 85 Tryz.f85 15:=⟨λ_ _=>Γ,Tryz.func85,rfl⟩
instance Vs:En Ε 86 Tryz.f86 23:=⟨λ_ _=>Γ,Tryz.func86,rfl⟩
instance Vt:En Ε 87 Tryz.f87 37:=⟨λ_ _=>Γ,Tryz.func87,rfl⟩
instance Vu:En Ε 88 Tryz.f88 9:=⟨λ_ _=>Γ,Tryz.func88,rfl⟩
instance Vv:En Ε 89 Tryz.f89 9:=⟨λ_ _=>Γ,Tryz.func89,rfl⟩
instance Vw:En Ε 90 Tryz.f90 9:=⟨λ_ _=>Γ,Tryz.func90,rfl⟩
instance Vx:En Ε 91 Tryz.f91 9:=⟨λ_ _=>Γ,Tryz.func91,rfl⟩
instance Vy:En Ε 92 Tryz.f92 9:=⟨λ_ _=>Γ,Tryz.func92,rfl⟩
instance Vz:En Ε 96 Tryz.f96 51:=⟨λ_ _=>Γ,Tryz.func96,rfl⟩
instance VA:En Ε 97 Tryz.f97 104:=⟨λ_ _=>Γ,Tryz.func97,rfl⟩
instance VB:En Ε 98 Tryz.f98 31:=⟨λ_ _=>Γ,Tryz.func98,rfl⟩
instance VC:En Ε 102 Tryz.f102 8:=⟨λ_ _=>Γ,Tryz.func102,rfl⟩
instance VD:En Ε 105 Tryz.f105 59:=⟨λ_ _=>Γ,Tryz.func105,rfl⟩
instance VE:En Ε 107 Tryz.f107 23:=⟨λ_ _=>Γ,Tryz.func107,rfl⟩
instance VF:En Ε 108 Tryz.f108 16:=⟨λ_ _=>Γ,Tryz.func108,rfl⟩
instance VG:En Ε 109 Tryz.f109 67:=⟨λ_ _=>Γ,Tryz.func109,rfl⟩
instance VH:En Ε 110 Tryz.f110 29:=⟨λ_ _=>Γ,Tryz.func110,rfl⟩
instance VI:En Ε 111 Tryz.f111 8:=⟨λ_ _=>Γ,Tryz.func111,rfl⟩
instance VJ:En Ε 112 Tryz.f112 9:=⟨λ_ _=>Γ,Tryz.func112,rfl⟩
instance VK:En Ε 113 Tryz.f113 8:=⟨λ_ _=>Γ,Tryz.func113,rfl⟩
instance VL:En Ε 114 Tryz.f114 34:=⟨λ_ _=>Γ,Tryz.func114,rfl⟩
instance VM:En Ε 115 Tryz.f115 8:=⟨λ_ _=>Γ,Tryz.func115,rfl⟩
instance VN:En Ε 116 Tryz.f116 29:=⟨λ_ _=>Γ,Tryz.func116,rfl⟩
def Ib:Enters Ε 117:=λ_ _=>Γ
instance Ty:En Ε 118 Tryz.f118 17:=⟨λ_ _=>Γ,Tryz.func118,rfl⟩
instance VO:En Ε 119 Tryz.f119 6:=⟨λ_ _=>Γ,Tryz.func119,rfl⟩
instance VP:En Ε 122 Tryz.f122 6:=⟨λ_ _=>Γ,Tryz.func122,rfl⟩
instance VQ:En Ε 123 Tryz.f123 19:=⟨λ_ _=>Γ,Tryz.func123,rfl⟩
instance VR:En Ε 124 Tryz.f124 5:=⟨λ_ _=>Γ,Tryz.func124,rfl⟩
instance VS:En Ε 125 Tryz.f125 4:=⟨λ_ _=>Γ,Tryz.func125,rfl⟩
def Ia:Enters Ε 126:=λ_ _=>Γ
instance VT:En Ε 127 Tryz.f127 9:=⟨λ_ _=>Γ,Tryz.func127,rfl⟩
instance VU:En Ε 128 Tryz.f128 6:=⟨λ_ _=>Γ,Tryz.func128,rfl⟩
instance VV:En Ε 129 Tryz.f129 24:=⟨λ_ _=>Γ,Tryz.func129,rfl⟩
instance VW:En Ε 132 Tryz.f132 70:=⟨λ_ _=>Γ,Tryz.func132,rfl⟩
instance VX:En Ε 133 Tryz.f133 8:=⟨λ_ _=>Γ,Tryz.func133,rfl⟩
instance VY:En Ε 134 Tryz.f134 186:=⟨λ_ _=>Γ,Tryz.func134,rfl⟩
instance VZ:En Ε 135 Tryz.f135 29:=⟨λ_ _=>Γ,Tryz.func135,rfl⟩
instance V0:En Ε 136 Tryz.f136 32:=⟨λ_ _=>Γ,Tryz.func136,rfl⟩
instance V1:En Ε 137 Tryz.f137 114:=⟨λ_ _=>Γ,Tryz.func137,rfl⟩
instance V2:En Ε 138 Tryz.f138 64:=⟨λ_ _=>Γ,Tryz.func138,rfl⟩
instance V3:En Ε 139 Tryz.f139 81:=⟨λ_ _=>Γ,Tryz.func139,rfl⟩
instance V4:En Ε 140 Tryz.f140 27:=⟨λ_ _=>Γ,Tryz.func140,rfl⟩
instance V5:En Ε 141 Tryz.f141 98:=⟨λ_ _=>Γ,Tryz.func141,rfl⟩
instance V6:En Ε 142 Tryz.f142 61:=⟨λ_ _=>Γ,Tryz.func142,rfl⟩
instance V7:En Ε 143 Tryz.f143 93:=⟨λ_ _=>Γ,Tryz.func143,rfl⟩
instance V8:En Ε 145 Tryz.f145 22:=⟨λ_ _=>Γ,Tryz.func145,rfl⟩
instance V9:En Ε 146 Tryz.f146 55:=⟨λ_ _=>Γ,Tryz.func146,rfl⟩
instance Wa:En Ε 147 Tryz.f147 28:=⟨λ_ _=>Γ,Tryz.func147,rfl⟩
instance Wb:En Ε 148 Tryz.f148 15:=⟨λ_ _=>Γ,Tryz.func148,rfl⟩
instance Wc:En Ε 151 Tryz.f151 26:=⟨λ_ _=>Γ,Tryz.func151,rfl⟩
instance Wd:En Ε 154 Tryz.f154 40:=⟨λ_ _=>Γ,Tryz.func154,rfl⟩
instance We:En Ε 155 Tryz.f155 21:=⟨λ_ _=>Γ,Tryz.func155,rfl⟩
instance Wf:En Ε 156 Tryz.f156 21:=⟨λ_ _=>Γ,Tryz.func156,rfl⟩
instance Wg:En Ε 157 Tryz.f157 25:=⟨λ_ _=>Γ,Tryz.func157,rfl⟩
instance Wh:En Ε 158 Tryz.f158 24:=⟨λ_ _=>Γ,Tryz.func158,rfl⟩
instance Wi:En Ε 159 Tryz.f159 8:=⟨λ_ _=>Γ,Tryz.func159,rfl⟩
instance Wj:En Ε 160 Tryz.f160 29:=⟨λ_ _=>Γ,Tryz.func160,rfl⟩
instance Wl:En Ε 162 Tryz.f162 29:=⟨λ_ _=>Γ,Tryz.func162,rfl⟩
instance Wm:En Ε 164 Tryz.f164 29:=⟨λ_ _=>Γ,Tryz.func164,rfl⟩
instance Wn:En Ε 166 Tryz.f166 8:=⟨λ_ _=>Γ,Tryz.func166,rfl⟩
instance Wo:En Ε 167 Tryz.f167 9:=⟨λ_ _=>Γ,Tryz.func167,rfl⟩
instance Wp:En Ε 168 Tryz.f168 8:=⟨λ_ _=>Γ,Tryz.func168,rfl⟩
instance Wq:En Ε 169 Tryz.f169 19:=⟨λ_ _=>Γ,Tryz.func169,rfl⟩
instance TA:En Ε 171 Tryz.f171 131:=⟨λ_ _=>Γ,Tryz.func171,rfl⟩
instance Wr:En Ε 172 Tryz.f172 39:=⟨λ_ _=>Γ,Tryz.func172,rfl⟩
instance Ws:En Ε 182 Tryz.f182 25:=⟨λ_ _=>Γ,Tryz.func182,rfl⟩
instance Wt:En Ε 183 Tryz.f183 13:=⟨λ_ _=>Γ,Tryz.func183,rfl⟩
instance TB:En Ε 184 Tryz.f184 14:=⟨λ_ _=>Γ,Tryz.func184,rfl⟩
instance Wu:En Ε 186 Tryz.f186 19:=⟨λ_ _=>Γ,Tryz.func186,rfl⟩
instance Wv:En Ε 187 Tryz.f187 33:=⟨λ_ _=>Γ,Tryz.func187,rfl⟩
instance Ww:En Ε 188 Tryz.f188 9:=⟨λ_ _=>Γ,Tryz.func188,rfl⟩
instance Wx:En Ε 189 Tryz.f189 22:=⟨λ_ _=>Γ,Tryz.func189,rfl⟩
instance Wy:En Ε 190 Tryz.f190 93:=⟨λ_ _=>Γ,Tryz.func190,rfl⟩
instance Wz:En Ε 191 Tryz.f191 29:=⟨λ_ _=>Γ,Tryz.func191,rfl⟩
instance WA:En Ε 192 Tryz.f192 8:=⟨λ_ _=>Γ,Tryz.func192,rfl⟩
instance WB:En Ε 193 Tryz.f193 35:=⟨λ_ _=>Γ,Tryz.func193,rfl⟩
instance WC:En Ε 194 Tryz.f194 33:=⟨λ_ _=>Γ,Tryz.func194,rfl⟩
instance WD:En Ε 195 Tryz.f195 17:=⟨λ_ _=>Γ,Tryz.func195,rfl⟩
instance WE:En Ε 196 Tryz.f196 5:=⟨λ_ _=>Γ,Tryz.func196,rfl⟩
instance WG:En Ε 197 Tryz.f197 7:=⟨λ_ _=>Γ,Tryz.func197,rfl⟩
instance WH:En Ε 198 Tryz.f198 6:=⟨λ_ _=>Γ,Tryz.func198,rfl⟩
instance WI:En Ε 199 Tryz.f199 13:=⟨λ_ _=>Γ,Tryz.func199,rfl⟩
instance WJ:En Ε 200 Tryz.f200 7:=⟨λ_ _=>Γ,Tryz.func200,rfl⟩
instance WK:En Ε 201 Tryz.f201 18:=⟨λ_ _=>Γ,Tryz.func201,rfl⟩
instance WL:En Ε 202 Tryz.f202 8:=⟨λ_ _=>Γ,Tryz.func202,rfl⟩
instance WM:En Ε 203 Tryz.f203 19:=⟨λ_ _=>Γ,Tryz.func203,rfl⟩
instance WN:En Ε 204 Tryz.f204 73:=⟨λ_ _=>Γ,Tryz.func204,rfl⟩
instance WO:En Ε 205 Tryz.f205 18:=⟨λ_ _=>Γ,Tryz.func205,rfl⟩
instance WQ:En Ε 207 Tryz.f207 18:=⟨λ_ _=>Γ,Tryz.func207,rfl⟩
instance WR:En Ε 209 Tryz.f209 18:=⟨λ_ _=>Γ,Tryz.func209,rfl⟩
instance WS:En Ε 211 Tryz.f211 18:=⟨λ_ _=>Γ,Tryz.func211,rfl⟩
instance WT:En Ε 212 Tryz.f212 6:=⟨λ_ _=>Γ,Tryz.func212,rfl⟩
instance WU:En Ε 213 Tryz.f213 34:=⟨λ_ _=>Γ,Tryz.func213,rfl⟩
instance WV:En Ε 217 Tryz.f217 27:=⟨λ_ _=>Γ,Tryz.func217,rfl⟩
instance WW:En Ε 218 Tryz.f218 5:=⟨λ_ _=>Γ,Tryz.func218,rfl⟩
instance WX:En Ε 219 Tryz.f219 27:=⟨λ_ _=>Γ,Tryz.func219,rfl⟩
instance WY:En Ε 221 Tryz.f221 27:=⟨λ_ _=>Γ,Tryz.func221,rfl⟩
instance WZ:En Ε 223 Tryz.f223 27:=⟨λ_ _=>Γ,Tryz.func223,rfl⟩
instance W5:En Ε 226 Tryz.f226 36:=⟨λ_ _=>Γ,Tryz.func226,rfl⟩
instance W6:En Ε 237 Tryz.f237 26:=⟨λ_ _=>Γ,Tryz.func237,rfl⟩
instance W7:En Ε 269 Tryz.f269 5:=⟨λ_ _=>Γ,Tryz.func269,rfl⟩
instance W8:En Ε 270 Tryz.f270 5:=⟨λ_ _=>Γ,Tryz.func270,rfl⟩
instance W9:En Ε 271 Tryz.f271 13:=⟨λ_ _=>Γ,Tryz.func271,rfl⟩
instance Xa:En Ε 275 Tryz.f275 73:=⟨λ_ _=>Γ,Tryz.func275,rfl⟩
instance Xb:En Ε 276 Tryz.f276 71:=⟨λ_ _=>Γ,Tryz.func276,rfl⟩
instance Xc:En Ε 278 Tryz.f278 39:=⟨λ_ _=>Γ,Tryz.func278,rfl⟩
instance Xd:En Ε 279 Tryz.f279 8:=⟨λ_ _=>Γ,Tryz.func279,rfl⟩
instance Xe:En Ε 280 Tryz.f280 11:=⟨λ_ _=>Γ,Tryz.func280,rfl⟩
instance Xf:En Ε 281 Tryz.f281 43:=⟨λ_ _=>Γ,Tryz.func281,rfl⟩
instance Xg:En Ε 282 Tryz.f282 33:=⟨λ_ _=>Γ,Tryz.func282,rfl⟩
instance Xh:En Ε 283 Tryz.f283 44:=⟨λ_ _=>Γ,Tryz.func283,rfl⟩
instance Xi:En Ε 284 Tryz.f284 8:=⟨λ_ _=>Γ,Tryz.func284,rfl⟩
instance Xj:En Ε 285 Tryz.f285 23:=⟨λ_ _=>Γ,Tryz.func285,rfl⟩
instance Xk:En Ε 286 Tryz.f286 21:=⟨λ_ _=>Γ,Tryz.func286,rfl⟩
instance Xl:En Ε 287 Tryz.f287 8:=⟨λ_ _=>Γ,Tryz.func287,rfl⟩
instance Xm:En Ε 288 Tryz.f288 25:=⟨λ_ _=>Γ,Tryz.func288,rfl⟩
instance Xn:En Ε 300 Tryz.f300 74:=⟨λ_ _=>Γ,Tryz.func300,rfl⟩
instance Xo:En Ε 302 Tryz.f302 20:=⟨λ_ _=>Γ,Tryz.func302,rfl⟩
instance Xp:En Ε 303 Tryz.f303 22:=⟨λ_ _=>Γ,Tryz.func303,rfl⟩
instance Xq:En Ε 304 Tryz.f304 9:=⟨λ_ _=>Γ,Tryz.func304,rfl⟩
instance Xr:En Ε 305 Tryz.f305 19:=⟨λ_ _=>Γ,Tryz.func305,rfl⟩
instance Xs:En Ε 306 Tryz.f306 31:=⟨λ_ _=>Γ,Tryz.func306,rfl⟩
instance Xt:En Ε 307 Tryz.f307 10:=⟨λ_ _=>Γ,Tryz.func307,rfl⟩
instance Xu:En Ε 308 Tryz.f308 4:=⟨λ_ _=>Γ,Tryz.func308,rfl⟩
instance Xv:En Ε 311 Tryz.f311 6:=⟨λ_ _=>Γ,Tryz.func311,rfl⟩
instance Xw:En Ε 312 Tryz.f312 100:=⟨λ_ _=>Γ,Tryz.func312,rfl⟩
instance Xx:En Ε 313 Tryz.f313 8:=⟨λ_ _=>Γ,Tryz.func313,rfl⟩
instance Xy:En Ε 314 Tryz.f314 22:=⟨λ_ _=>Γ,Tryz.func314,rfl⟩
instance TC:En Ε 315 Tryz.f315 34:=⟨λ_ _=>Γ,Tryz.func315,rfl⟩
instance Xz:En Ε 316 Tryz.f316 32:=⟨λ_ _=>Γ,Tryz.func316,rfl⟩
instance XA:En Ε 317 Tryz.f317 99:=⟨λ_ _=>Γ,Tryz.func317,rfl⟩
instance XB:En Ε 318 Tryz.f318 17:=⟨λ_ _=>Γ,Tryz.func318,rfl⟩
instance XC:En Ε 319 Tryz.f319 9:=⟨λ_ _=>Γ,Tryz.func319,rfl⟩
instance XD:En Ε 320 Tryz.f320 52:=⟨λ_ _=>Γ,Tryz.func320,rfl⟩
def HZ:Enters Ε 321:=λ_ _=>Γ
instance TD:En Ε 322 Tryz.f322 20:=⟨λ_ _=>Γ,Tryz.func322,rfl⟩
instance XE:En Ε 323 Tryz.f323 20:=⟨λ_ _=>Γ,Tryz.func323,rfl⟩
instance XF:En Ε 324 Tryz.f324 6:=⟨λ_ _=>Γ,Tryz.func324,rfl⟩
instance XG:En Ε 325 Tryz.f325 20:=⟨λ_ _=>Γ,Tryz.func325,rfl⟩
instance XH:En Ε 327 Tryz.f327 9:=⟨λ_ _=>Γ,Tryz.func327,rfl⟩
instance XI:En Ε 328 Tryz.f328 51:=⟨λ_ _=>Γ,Tryz.func328,rfl⟩
instance XJ:En Ε 329 Tryz.f329 135:=⟨λ_ _=>Γ,Tryz.func329,rfl⟩
instance XK:En Ε 331 Tryz.f331 6:=⟨λ_ _=>Γ,Tryz.func331,rfl⟩
instance TF:En Ε 332 Tryz.f332 43:=⟨λ_ _=>Γ,Tryz.func332,rfl⟩
instance XL:En Ε 334 Tryz.f334 6:=⟨λ_ _=>Γ,Tryz.func334,rfl⟩
def mixed:Tryz.prog.follows .mixedOrders=true:=Γ
instance:Mz Ε 47 3:=Mz.of Γ Γ Γ Γ Γ
instance:Mz Ε 137 2:=Mz.of Γ Γ Γ Γ Γ
instance:Mz Ε 157 2:=Mz.of Γ Γ Γ Γ Γ
instance:OL Ε 419 128 5 1:=⟨Γ,Γ⟩
instance:K0 Ε 126 137 35 (ae none 0 0):=⟨Γ,Γ⟩
instance:LQ Ε 137 B7:=RO
instance:K0 Ε 127 3 3 (E 0):=⟨Γ,Γ⟩
instance:LQ Ε 3 cu:=Tq
instance:K0 Ε 128 3 35 (ae none 0 0):=⟨Γ,Γ⟩
instance:K0 Ε 143 3 141 (.pointer none):=⟨Γ,Γ⟩
instance:K0 Ε 144 3 151 (.pointer none):=⟨Γ,Γ⟩
instance:K0 Ε 145 157 4 (.bool false):=⟨Γ,Γ⟩
instance:K0 Ε 148 3 4 (.bool false):=⟨Γ,Γ⟩
instance:K0 Ε 251 3 249 (.nilFunc):=⟨Γ,Γ⟩
instance:K0 Ε 375 9 4 (.bool false):=⟨Γ,Γ⟩
instance:LQ Ε 9 LR:=Tr
end
end Go.Proofs.YtlgpgjdggilkgaaGreatDoor
namespace Go.V
section
section
variable {P:Program}{N:Nat}{env:Env}{L:LH}{ty:TypeId}{v:Value}
end
end
section
open Go.Sort
def tN{Ξ:List Int}{r:Array Value}{m:Nat}(hm:m<=Ξ.length)(hc:Ξ.length<=r.size):(putCells (Value.int .i64) 0 Ξ.toArray r).toList.take (m*1)=(Ξ.take m).flatMap (a0 .i64):=by
 rw[my,Nat.mul_one];apply fY;intro i;by_cases hi:i<m
 .have J:i<Ξ.length:=B;have U:i<r.size:=B;rw[List.getElem?_take,μ hi];simp[putCells,J,U,hi]
 .rw[List.getElem?_take,Ω hi];simp;omega
def Sat.putRow{θ:Th}{g Τ:Nat}{I:Array Value}{Α:LH}{w:World}{Ξ:Array Int}{n:Nat}{os:Array Obj}(s:Sat θ (h1 g (.cells I Τ (0,0))::Α) w) :
  Sat θ (h1 g (.cells (putCells (Value.int .i64) 0 Ξ I) Τ (0,0))::Α) (grow (Sort.putRow (Value.int .i64) (Sort.ahead w n) g 0 Ξ) os):=by
 have hb:=s.IN;have a2:g<w.heap.size:=(Array.getElem?_eq_some_iff.1 hb).1;refine s.update ⟨s.1.tape,s.1.os,s.1.output,aQ s.1.drawn (Nat.le_add_right _ _)⟩ ?_ ?_
 .show(w.heap.modify g (onCells (putCells (Value.int .i64) 0 Ξ))++os)[g]? = _;rw[Array.getElem?_append_left (by simpa using a2),Array.getElem?_modify,μ rfl,hb];rfl
 .intro k x hk K;have r:k<w.heap.size:=(Array.getElem?_eq_some_iff.1 K).1;show(w.heap.modify g (onCells (putCells (Value.int .i64) 0 Ξ))++os)[k]? = _;rw[Array.getElem?_append_left (by simpa using r),Array.getElem?_modify,Ω (λe=>hk e.symm),K]
def Dv{g Τ:Nat}{r:Array Value}{D:List Int}{w:World}(hb:w.heap[g]? = some (.cells r Τ (0,0)))(ht:r.toList.take (D.length*1)=D.flatMap (a0 .i64)):Holds (Value.int .i64) w g 0 D.toArray:=by
 intro j hj;have I : j<D.length:=by simpa using hj
 refine⟨?_,by simp[World.frozen?,hb]⟩;rw[cW,dI hb];have h:(r.toList.take (D.length*1))[j]? = (D.flatMap (a0 .i64))[j]?:=by rw[ht]
 rw[my,List.getElem?_take,μ B] at h;simp[I] at h;simp[I,h]
def Λ.f5{P:Program}{f:FuncId}{Τ cap:Nat}{M:OA}{D ys:List Int}{L:LH}(he:Enters P f)(a5:ys.length=D.length)(a7:D.length<4611686018427387904)
  (h0:D.length=0->∀w,Calls P f #[.slice M 0 cap] w λe ab=>e=.returned (.tuple #[])/\ab = w)
  (J:∀r w,Holds (Value.int .i64) w r 0 D.toArray->r<w.heap.size->Calls P f #[.slice (some ⟨r,0,none⟩) D.length cap] w λe ab=>e=.returned (.tuple #[])/\∃n os,ab = grow (Sort.putRow (Value.int .i64) (Sort.ahead w n) r 0 ys.toArray) os) :
  Λ P f #[.slice M D.length cap] (Υ (a0 .i64) 1 Τ M cap D::L) (λv Y=>v=.tuple #[]/\Y = Υ (a0 .i64) 1 Τ M cap ys::L):=by
 refine⟨he,λθ Α w s=>?_⟩;by_cases K:D.length=0
 .have e1:D=[]:=bG K;have e2:ys=[]:=bG B;subst e1 e2;refine(h0 rfl w).mono ?_;rintro e ab ⟨rfl,rfl⟩;exact⟨_,_,rfl,⟨rfl,rfl⟩,s⟩
 obtain⟨I,a2,a3,a4⟩:=Sat.Lw (L:=L++Α) s;rcases a4 with⟨rfl,rfl⟩|⟨g,a6,rfl,b1,b2,b3⟩
 .omega
 have hb:=b3.IN;refine(J g w (Dv hb b2) (Array.getElem?_eq_some_iff.1 hb).1).mono ?_;rintro e ab ⟨rfl,n,os,rfl⟩;refine⟨_,_,rfl,⟨rfl,rfl⟩,?_⟩;refine Sat.Mu (L:=L++Α) (Sat.putRow b3) (λ_ _=>rfl) B a3 ?_ ?_
 .simp[putCells,b1]
 .rw[tN (au _) (by rw[b1];omega),cn]
end
section
section fv
variable {P:Program}{N:Nat}{env:Env}{L:LH}{Ν:E1}{ty:TypeId}
def Cn(P:Program)(gf:FuncId)(cap:LV)(r:List (LV))(Lg Lx:LH):Prop :=
 ∀(l:Nat) (Jj Jx:Nat->HP),(∀k (hk:k<r.length),Nt P l r[k] [Jj k] (λv Y=>(v=.bool true/\Y = [Jj (k+1)])\/(v=.bool false/\Y = [Jx k]))) ->
  Λ P gf (.func (.yield l) #[] #[]::cap).toArray (Jj 0::Lg) (λ_ Y=>Y = Jj r.length::Lx\/∃k,Y = Jx k::Lx)
def Δ.d8{g:Operand}{ps:Array Tmp}{assign body:Code}{gf:FuncId}{cap:LV}{a2:List (LV)}{Lg Lx:LH}(it:Cn P gf cap a2 Lg Lx)(hg:χ env g=some (.func (.func gf) #[] cap.toArray))
  (b4:Enters P gf) (b7:∀p∈ps,p<N) (a9:∀vs∈a2,vs.length=ps.size) (E5:Nat->LH) (hl:A L (E5 0++Lg))
  (a4:∀k (hk:k<a2.length),Δ P N assign (OH env (ps.toList.zip a2[k])) (E5 k) (E1.seq (λa7 Y=>Δ P N body a7 Y (rP Ν env Lx (E5 (k+1)))) (λ_ _ _=>False)))
  (a5:Ν .normal env (E5 a2.length++Lx)):Δ P N (.rangeFunc g ps assign body) env L Ν:=by
 intro Θ θ η a w hr i;obtain⟨ξ,ea,hm,s⟩:=i;have s0:Sat θ (E5 0++Lg++(C6 ξ++η)) w:=hl θ _ w s;-- what is Qh same in both cases
 have a6:∀(fn:FuncId) (l F0:Nat) (r:List Nat) (w₁:World),(Instr.enterLoop fn a.tmps ps assign body Θ).run P w=.ok (l,Lj r) w₁ ->
   Sat θ (h1 l (.loop { state:=.ready,pending:=none,fn,tmps:=a.tmps,params:=ps,assign,body,defers:=F0 })::(C6 r++(E5 0++Lg++(C6 ξ++η)))) w₁ ->
   ∃(l:Nat) (r:List Deferred) (w₁:World) (Ξ:Deferred) (w₁' : World) (f:FuncId) (args:Array Value) (w₂:World),
   (Instr.enterLoop fn a.tmps ps assign body (FW Θ).round).run P w=.ok (l,r) w₁ /\
   (resolve a.eval (rangeCall g l) 0).run P w₁=.ok Ξ w₁' /\
   (∀f',Target.leads P w₁' Ξ.target Ξ.args=some f'->(FW Θ).fn f') /\
   (invoke Ξ.target Ξ.args).run P w₁' = .ok (.enter f args) w₂ /\
   ((FW Θ).depth.isSome=true->1<=0) /\
   CallsIn (FW Θ) (0 - 1) P f args w₂ (rangePost (FW Θ) 0 P l (QK θ η N Ν) { a with defers:=r++a.defers }):=by
  intro fn l F0 r w₁ he s1;obtain⟨I,a3⟩:∃I:Loop,I={ state:=.ready,pending:=none,fn,tmps:=a.tmps,params:=ps,assign,body,defers:=F0 }:=⟨_,rfl⟩;rw[<-a3] at s1;have b2:I.state=.ready:=by rw[a3]
  have b1:I.pending=none:=by rw[a3]
  have Z:∀k (hk:k<a2.length),Nt P l a2[k] [bW (h1 l (.loop I)::E5 k)] (λv Y=>(v=.bool true/\Y = [bW (h1 l (.loop I)::E5 (k+1))])\/(v=.bool false/\Y = [hex λx:Code×LH=>bW (dp (gB Ν env Lx x.1 x.2)::h1 l (.loop { I with state:=.done,pending:=some x.1 })::x.2)])):=by
   intro k hk;refine nr b2 b1 (by rw[a3];exact a9 _ (cG _)) (by rw[a3];exact b7) (env:=env) ?_ ?_
   .rw[a3];exact⟨ea.size,ea.at_⟩
   .rw[a3];exact a4 k hk
  have ht:=it l (λk=>bW (h1 l (.loop I)::E5 k)) (λ_=>hex λx:Code×LH=>bW (dp (gB Ν env Lx x.1 x.2)::h1 l (.loop { I with state:=.done,pending:=some x.1 })::x.2)) Z;have b5:a.eval g=.func (.func gf) #[] cap.toArray:=aH ea.KF hg;refine⟨l,Lj r,w₁,{ target:=.fn (.func gf) cap.toArray,args:=#[.func (.yield l) #[] #[]] },w₁,gf,(.func (.yield l) #[] #[]::cap).toArray,w₁,he,?_,λ_ _=>trivial,?_,(λh=>by cases h),lu ?_⟩
  .simp only[resolve,Deferred.ofValue,b5];simp[Act.eval]
  .have:=b4 (.func (.yield l) #[] #[]::cap).toArray w₁
   simpa [invoke] using this
  have s2:Sat θ (bW (h1 l (.loop I)::E5 0)::Lg++(C6 r++(C6 ξ++η))) w₁:=by
   refine Sat.a8 (Μ:=h1 l (.loop I)::E5 0) (s1.perm ?_);simp only[aj];refine List.Perm.cons _ ?_;rw[ax];refine OI.trans ?_;refine List.Perm.append_left _ ?_;exact OI
  refine(ht.calls θ _ w₁ s2).mono ?_;rintro e w₂ ⟨v,Y,rfl,b3,s3⟩;rcases b3 with rfl|⟨k,rfl⟩
  .have s4:Sat θ (h1 l (.loop I)::(E5 a2.length++(Lx++(C6 r++(C6 ξ++η))))) w₂:=Sat.KY (Μ:=h1 l (.loop I)::E5 a2.length) s3;have hh:=s4.IN;refine⟨none,_,(by rw[<-b1];exact iK hh (by rw[b2];simp)),?_⟩;have s5:=(Sat.c7 (L6:={ I with state:=.exhausted }) s4).tail;refine⟨env,E5 a2.length++Lx,⟨r++ξ,⟨ea.size,ea.at_⟩,by simp[Lj,hm],?_⟩,a5⟩;have e:C6 (r++ξ)++η=C6 r++(C6 ξ++η):=by simp[C6]
   rw[e,ax];exact s5
  .obtain⟨⟨c,L₂⟩,s4⟩:=Sat.NK (L:=Lx++(C6 r++(C6 ξ++η))) s3;have s5:Sat θ (dp (gB Ν env Lx c L₂)::(h1 l (.loop { I with state:=.done,pending:=some c })::(L₂++(Lx++(C6 r++(C6 ξ++η)))))) w₂:=Sat.KY (Μ:=dp (gB Ν env Lx c L₂)::h1 l (.loop { I with state:=.done,pending:=some c })::L₂) s4;have hj:=s5.Nq;have s6:=s5.tail;have hh:=s6.IN;have s7:=(Sat.c7 (L6:={ ({ I with state:=.done,pending:=some c }:Loop) with state:=.exhausted }) s6).tail;refine⟨some c,_,iK hh bR,?_⟩
   have b0:At N env (L₂++Lx) θ η { a with defers:=Lj r++a.defers } { w₂ with heap:=w₂.heap.setIfInBounds l (.loop { ({ I with state:=.done,pending:=some c }:Loop) with state:=.exhausted }) }:=by
    refine⟨r++ξ,⟨ea.size,ea.at_⟩,by simp[Lj,hm],?_⟩;have e:C6 (r++ξ)++η=C6 r++(C6 ξ++η):=by simp[C6]
    rw[e,ax];exact s7
   cases c with
   | ret=>exact wpIn_ret ⟨env,_,b0,hj⟩
   | exit F=>exact wpIn_exit ⟨env,_,b0,hj⟩
   | _=>exact hj.elim
 refine wpIn_rangeFunc λfn _=>?_;cases Θ with
 | none =>
  have s1:=s0.alloc (o:=.deferred (some []));have s2:=s1.alloc (o:=.loop { state:=.ready,pending:=none,fn,tmps:=a.tmps,params:=ps,assign,body,defers:=w.heap.size });refine a6 fn (w.heap.size+1) w.heap.size [w.heap.size] _ iR ?_;rw[World.size_alloc] at s2;exact s2
 | some l =>
  obtain⟨I,Y',hY⟩:=hr l rfl
  have b6:w.heap[l]? = some (.loop I):=by
   have s1:Sat θ (h1 l (.loop I)::(E5 0++Lg++(C6 ξ++Y'))) w:=s0.perm (by
    have J:(E5 0++Lg++(C6 ξ++η)).Perm (E5 0++Lg++(C6 ξ++(h1 l (.loop I)::Y'))):=(hY.append_left _).append_left _;refine J.trans ?_;rw[<-ax,<-ax (E5 0++Lg)];exact dq)
   exact s1.IN
  exact a6 fn w.heap.size I.defers [] _ (iQ b6) s0.alloc
def A.NN{Μ L:LH}:A (bW Μ::L) (Μ++L):=λθ Α w s=>by
 have h:Sat θ (Μ++(L++Α)) w:=Sat.KY (L:=L++Α) s;rw[ax];exact h
def A.f8{Μ L:LH}:A (Μ++L) (bW Μ::L):=λθ Α w s=>by
 rw[ax] at s;exact Sat.a8 s
def Nf(Μ cq:HP):HP:=λι _=>Μ ι Hp.emp/\cq ι Hp.emp
def JJ.and{Μ cq:HP}(hA:JJ Μ)(hB:JJ cq):JJ (Nf Μ cq) :=
 ⟨λ_ _ h=>h,λι ι' _ hs h=>⟨hA.mono ι ι' _ hs h.1,hB.mono ι ι' _ hs h.2⟩⟩
def A.OM{Μ cq:HP}{L:LH}:A (Nf Μ cq::L) (Μ::cq::L):=λθ Α w s=>by
 obtain⟨ok,ι,h',a,b1,c,F9,D7,C3,d1,d2,d3,d4,d5,d6⟩:=s;exact⟨ok,ι,h',a,b1,c,F9,Hp.emp,C3,d1,Hp.c7 _,Hp.a8 _,d4,d5.1,F9,Hp.emp,C3,d1,Hp.c7 _,Hp.a8 _,Hp.sub.refl _,d5.2,d6⟩
def A.g8{Μ cq:HP}{L:LH}(hA:JJ Μ)(hB:JJ cq):A (Μ::cq::L) (Nf Μ cq::L):=λθ Α w s=>by
 obtain⟨ok,ι,h',a,b1,c,Na,D7,C3,d1,d2,d3,d4,d5,Qf,h₃,h₄,e1,e2,e3,e4,e5,e6⟩:=s;exact⟨ok,ι,h',a,b1,c,ι,Hp.emp,h₄,Hp.sub.refl _,Hp.c7 _,Hp.a8 _,e4.trans d4,⟨hA.mono _ _ _ d1 (hA.Mx _ _ d5),hB.mono _ _ _ e1 (hB.Mx _ _ e5)⟩,e6⟩
def eg{α:Type}{f:α->HP}{l:List α}(hf:∀x,JJ (f x)):JJ (Ρ f l) :=
 ⟨λ_ _ h=>h,λι ι' _ hs h x K=>(hf x).mono ι ι' _ hs (h x K)⟩
