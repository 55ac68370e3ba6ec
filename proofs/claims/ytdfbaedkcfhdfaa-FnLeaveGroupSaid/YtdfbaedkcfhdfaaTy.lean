import Derived.Test.YtdfbaedkcfhdfaaProg
import Derived.Test.YtdfbaedkcfhdfaaCoreD
namespace Go.Proofs.Ytdfbaedkcfhdfaa
open Go Go.AL
set_option maxRecDepth 100000
set_option maxRecDepth 100000 in
def tyT0 : Nat → TyI
  | 1=>⟨Ty.func,1,8,none⟩
  | 2=>⟨Ty.int .i64,1,8,some [.int .i64 0]⟩
  | 3=>⟨Ty.int .i64,1,8,some [.int .i64 0]⟩
  | 4=>⟨Ty.bool,1,1,some [.bool false]⟩
  | 5=>⟨Ty.int .u8,1,1,some [.int .u8 0]⟩
  | 6=>⟨Ty.int .u8,1,1,some [.int .u8 0]⟩
  | 7=>⟨Ty.strct [(0,2),(1,3),(2,4),(3,6)],4,24,some [.int .i64 0,.int .i64 0,.bool false,.int .u8 0]⟩
  | 8=>⟨Ty.strct [(0,2),(1,3),(2,4),(3,6)],4,24,some [.int .i64 0,.int .i64 0,.bool false,.int .u8 0]⟩
  | 9=>⟨Ty.str,1,16,some [.str []]⟩
  | 10=>⟨Ty.str,1,16,some [.str []]⟩
  | 11=>⟨Ty.str,1,16,some [.str []]⟩
  | 12=>⟨Ty.int .u64,1,8,some [.int .u64 0]⟩
  | 13=>⟨Ty.strct [(0,9),(1,12)],2,24,some [.str [],.int .u64 0]⟩
  | 14=>⟨Ty.strct [(0,9),(1,12)],2,24,some [.str [],.int .u64 0]⟩
  | 15=>⟨Ty.ptr,1,8,none⟩
  | 16=>⟨Ty.ptr,1,8,none⟩
  | 17=>⟨Ty.ptr,1,8,none⟩
  | 18=>⟨Ty.strct [(0,17)],1,8,none⟩
  | 19=>⟨Ty.strct [(0,17)],1,8,none⟩
  | 20=>⟨Ty.iface,1,16,none⟩
  | 21=>⟨Ty.int .i32,1,4,some [.int .i32 0]⟩
  | 22=>⟨Ty.slice 5,1,24,some [.sl 1 [] .full]⟩
  | 23=>⟨Ty.slice 90,1,24,some [.sl 2 [] .full]⟩
  | 25=>⟨Ty.func,1,8,none⟩
  | 27=>⟨Ty.func,1,8,none⟩
  | 28=>⟨Ty.func,1,8,none⟩
  | 29=>⟨Ty.func,1,8,none⟩
  | 30=>⟨Ty.func,1,8,none⟩
  | 31=>⟨Ty.func,1,8,none⟩
  | 32=>⟨Ty.func,1,8,none⟩
  | 33=>⟨Ty.slice 104,1,24,some [.sl 2 [] .full]⟩
  | 34=>⟨Ty.func,1,8,none⟩
  | 35=>⟨Ty.func,1,8,none⟩
  | 36=>⟨Ty.func,1,8,none⟩
  | 37=>⟨Ty.func,1,8,none⟩
  | 38=>⟨Ty.slice 114,1,24,some [.sl 9 [] .full]⟩
  | 39=>⟨Ty.strct [(0,23),(1,38)],2,48,some [.sl 2 [] .full,.sl 9 [] .full]⟩
  | 40=>⟨Ty.strct [(0,23),(1,38)],2,48,some [.sl 2 [] .full,.sl 9 [] .full]⟩
  | 41=>⟨Ty.func,1,8,none⟩
  | 42=>⟨Ty.func,1,8,none⟩
  | 43=>⟨Ty.func,1,8,none⟩
  | 44=>⟨Ty.slice 161,1,24,some [.sl 9 [] .full]⟩
  | 45=>⟨Ty.strct [(0,33),(1,44)],2,48,some [.sl 2 [] .full,.sl 9 [] .full]⟩
  | 46=>⟨Ty.strct [(0,33),(1,44)],2,48,some [.sl 2 [] .full,.sl 9 [] .full]⟩
  | 47=>⟨Ty.func,1,8,none⟩
  | 48=>⟨Ty.func,1,8,none⟩
  | 49=>⟨Ty.func,1,8,none⟩
  | 50=>⟨Ty.func,1,8,none⟩
  | 51=>⟨Ty.slice 165,1,24,some [.sl 2 [] .full]⟩
  | 52=>⟨Ty.strct [(0,51),(1,51)],2,48,some [.sl 2 [] .full,.sl 2 [] .full]⟩
  | 53=>⟨Ty.strct [(0,51),(1,51)],2,48,some [.sl 2 [] .full,.sl 2 [] .full]⟩
  | 54=>⟨Ty.slice 56,1,24,some [.sl 4 [] .full]⟩
  | 55=>⟨Ty.strct [(0,3),(1,3),(2,9),(3,54)],4,56,some [.int .i64 0,.int .i64 0,.str [],.sl 4 [] .full]⟩
  | 56=>⟨Ty.strct [(0,3),(1,3),(2,9),(3,54)],4,56,some [.int .i64 0,.int .i64 0,.str [],.sl 4 [] .full]⟩
  | 58=>⟨Ty.func,1,8,none⟩
  | 60=>⟨Ty.func,1,8,none⟩
  | 61=>⟨Ty.func,1,8,none⟩
  | 62=>⟨Ty.slice 147,1,24,some [.sl 3 [] .full]⟩
  | 63=>⟨Ty.strct [(0,3),(1,3),(2,3),(3,62)],4,48,some [.int .i64 0,.int .i64 0,.int .i64 0,.sl 3 [] .full]⟩
  | 64=>⟨Ty.strct [(0,3),(1,3),(2,3),(3,62)],4,48,some [.int .i64 0,.int .i64 0,.int .i64 0,.sl 3 [] .full]⟩
  | 66=>⟨Ty.func,1,8,none⟩
  | 67=>⟨Ty.func,1,8,none⟩
  | 68=>⟨Ty.func,1,8,none⟩
  | 69=>⟨Ty.slice 64,1,24,some [.sl 4 [] .full]⟩
  | 70=>⟨Ty.func,1,8,none⟩
  | 71=>⟨Ty.func,1,8,none⟩
  | 72=>⟨Ty.slice 179,1,24,some [.sl 2 [] .full]⟩
  | 73=>⟨Ty.strct [(0,72),(1,72)],2,48,some [.sl 2 [] .full,.sl 2 [] .full]⟩
  | 74=>⟨Ty.strct [(0,72),(1,72)],2,48,some [.sl 2 [] .full,.sl 2 [] .full]⟩
  | 75=>⟨Ty.slice 77,1,24,some [.sl 4 [] .full]⟩
  | _=>⟨.other,0,0,none⟩
set_option maxRecDepth 100000 in
def tyT1 : Nat → TyI
  | 76=>⟨Ty.strct [(0,3),(1,3),(2,9),(3,75)],4,56,some [.int .i64 0,.int .i64 0,.str [],.sl 4 [] .full]⟩
  | 77=>⟨Ty.strct [(0,3),(1,3),(2,9),(3,75)],4,56,some [.int .i64 0,.int .i64 0,.str [],.sl 4 [] .full]⟩
  | 78=>⟨Ty.func,1,8,none⟩
  | 79=>⟨Ty.func,1,8,none⟩
  | 80=>⟨Ty.func,1,8,none⟩
  | 81=>⟨Ty.func,1,8,none⟩
  | 82=>⟨Ty.func,1,8,none⟩
  | 83=>⟨Ty.func,1,8,none⟩
  | 84=>⟨Ty.func,1,8,none⟩
  | 85=>⟨Ty.func,1,8,none⟩
  | 86=>⟨Ty.func,1,8,none⟩
  | 87=>⟨Ty.func,1,8,none⟩
  | 88=>⟨Ty.slice 3,1,24,some [.sl 1 [] .full]⟩
  | 89=>⟨Ty.strct [(0,88),(1,62)],2,48,some [.sl 1 [] .full,.sl 3 [] .full]⟩
  | 90=>⟨Ty.strct [(0,88),(1,62)],2,48,some [.sl 1 [] .full,.sl 3 [] .full]⟩
  | 91=>⟨Ty.func,1,8,none⟩
  | 92=>⟨Ty.func,1,8,none⟩
  | 93=>⟨Ty.func,1,8,none⟩
  | 94=>⟨Ty.func,1,8,none⟩
  | 95=>⟨Ty.func,1,8,none⟩
  | 96=>⟨Ty.func,1,8,none⟩
  | 97=>⟨Ty.func,1,8,none⟩
  | 98=>⟨Ty.func,1,8,none⟩
  | 99=>⟨Ty.func,1,8,none⟩
  | 100=>⟨Ty.func,1,8,none⟩
  | 101=>⟨Ty.func,1,8,none⟩
  | 102=>⟨Ty.slice 197,1,24,some [.sl 3 [] .full]⟩
  | 103=>⟨Ty.strct [(0,88),(1,102)],2,48,some [.sl 1 [] .full,.sl 3 [] .full]⟩
  | 104=>⟨Ty.strct [(0,88),(1,102)],2,48,some [.sl 1 [] .full,.sl 3 [] .full]⟩
  | 105=>⟨Ty.func,1,8,none⟩
  | 106=>⟨Ty.func,1,8,none⟩
  | 107=>⟨Ty.func,1,8,none⟩
  | 108=>⟨Ty.func,1,8,none⟩
  | 109=>⟨Ty.func,1,8,none⟩
  | 110=>⟨Ty.ptr,1,8,none⟩
  | 111=>⟨Ty.func,1,8,none⟩
  | 112=>⟨Ty.map 9 4,1,8,none⟩
  | 113=>⟨Ty.strct [(0,9),(1,4),(2,3),(3,3),(4,3),(5,56)],9,104,some [.str [],.bool false,.int .i64 0,.int .i64 0,.int .i64 0,.int .i64 0,.int .i64 0,.str [],.sl 4 [] .full]⟩
  | 114=>⟨Ty.strct [(0,9),(1,4),(2,3),(3,3),(4,3),(5,56)],9,104,some [.str [],.bool false,.int .i64 0,.int .i64 0,.int .i64 0,.int .i64 0,.int .i64 0,.str [],.sl 4 [] .full]⟩
  | 115=>⟨Ty.func,1,8,none⟩
  | 116=>⟨Ty.func,1,8,none⟩
  | 117=>⟨Ty.func,1,8,none⟩
  | 118=>⟨Ty.func,1,8,none⟩
  | 119=>⟨Ty.func,1,8,none⟩
  | 120=>⟨Ty.func,1,8,none⟩
  | 121=>⟨Ty.func,1,8,none⟩
  | 122=>⟨Ty.func,1,8,none⟩
  | 123=>⟨Ty.func,1,8,none⟩
  | 124=>⟨Ty.func,1,8,none⟩
  | 125=>⟨Ty.func,1,8,none⟩
  | 126=>⟨Ty.func,1,8,none⟩
  | 127=>⟨Ty.func,1,8,none⟩
  | 128=>⟨Ty.func,1,8,none⟩
  | 129=>⟨Ty.func,1,8,none⟩
  | 130=>⟨Ty.func,1,8,none⟩
  | 131=>⟨Ty.strct [(0,3),(1,3)],2,16,some [.int .i64 0,.int .i64 0]⟩
  | 132=>⟨Ty.strct [(0,3),(1,3)],2,16,some [.int .i64 0,.int .i64 0]⟩
  | 134=>⟨Ty.func,1,8,none⟩
  | 135=>⟨Ty.func,1,8,none⟩
  | 136=>⟨Ty.func,1,8,none⟩
  | 137=>⟨Ty.func,1,8,none⟩
  | 138=>⟨Ty.func,1,8,none⟩
  | 139=>⟨Ty.func,1,8,none⟩
  | 140=>⟨Ty.func,1,8,none⟩
  | 141=>⟨Ty.func,1,8,none⟩
  | 142=>⟨Ty.func,1,8,none⟩
  | 143=>⟨Ty.func,1,8,none⟩
  | 144=>⟨Ty.func,1,8,none⟩
  | 145=>⟨Ty.func,1,8,none⟩
  | 146=>⟨Ty.strct [(0,9),(1,132)],3,32,some [.str [],.int .i64 0,.int .i64 0]⟩
  | _=>⟨.other,0,0,none⟩
set_option maxRecDepth 100000 in
def tyT2 : Nat → TyI
  | 147=>⟨Ty.strct [(0,9),(1,132)],3,32,some [.str [],.int .i64 0,.int .i64 0]⟩
  | 148=>⟨Ty.func,1,8,none⟩
  | 149=>⟨Ty.func,1,8,none⟩
  | 150=>⟨Ty.func,1,8,none⟩
  | 151=>⟨Ty.int .u64,1,8,some [.int .u64 0]⟩
  | 152=>⟨Ty.func,1,8,none⟩
  | 153=>⟨Ty.func,1,8,none⟩
  | 154=>⟨Ty.func,1,8,none⟩
  | 155=>⟨Ty.func,1,8,none⟩
  | 156=>⟨Ty.func,1,8,none⟩
  | 157=>⟨Ty.strct [(0,22),(1,3)],2,32,some [.sl 1 [] .full,.int .i64 0]⟩
  | 158=>⟨Ty.strct [(0,22),(1,3)],2,32,some [.sl 1 [] .full,.int .i64 0]⟩
  | 159=>⟨Ty.func,1,8,none⟩
  | 160=>⟨Ty.strct [(0,9),(1,4),(2,3),(3,3),(4,3),(5,77)],9,104,some [.str [],.bool false,.int .i64 0,.int .i64 0,.int .i64 0,.int .i64 0,.int .i64 0,.str [],.sl 4 [] .full]⟩
  | 161=>⟨Ty.strct [(0,9),(1,4),(2,3),(3,3),(4,3),(5,77)],9,104,some [.str [],.bool false,.int .i64 0,.int .i64 0,.int .i64 0,.int .i64 0,.int .i64 0,.str [],.sl 4 [] .full]⟩
  | 162=>⟨Ty.func,1,8,none⟩
  | 163=>⟨Ty.func,1,8,none⟩
  | 164=>⟨Ty.strct [(0,9),(1,3)],2,24,some [.str [],.int .i64 0]⟩
  | 165=>⟨Ty.strct [(0,9),(1,3)],2,24,some [.str [],.int .i64 0]⟩
  | 166=>⟨Ty.func,1,8,none⟩
  | 167=>⟨Ty.func,1,8,none⟩
  | 168=>⟨Ty.func,1,8,none⟩
  | 169=>⟨Ty.func,1,8,none⟩
  | 170=>⟨Ty.func,1,8,none⟩
  | 171=>⟨Ty.func,1,8,none⟩
  | 172=>⟨Ty.func,1,8,none⟩
  | 173=>⟨Ty.slice 51,1,24,some [.sl 1 [] .full]⟩
  | 174=>⟨Ty.func,1,8,none⟩
  | 175=>⟨Ty.strct [(0,23),(1,64)],5,72,some [.sl 2 [] .full,.int .i64 0,.int .i64 0,.int .i64 0,.sl 3 [] .full]⟩
  | 176=>⟨Ty.strct [(0,23),(1,64)],5,72,some [.sl 2 [] .full,.int .i64 0,.int .i64 0,.int .i64 0,.sl 3 [] .full]⟩
  | 177=>⟨Ty.func,1,8,none⟩
  | 178=>⟨Ty.func,1,8,none⟩
  | 179=>⟨Ty.strct [(0,9),(1,3)],2,24,some [.str [],.int .i64 0]⟩
  | 180=>⟨Ty.func,1,8,none⟩
  | 181=>⟨Ty.func,1,8,none⟩
  | 182=>⟨Ty.func,1,8,none⟩
  | 183=>⟨Ty.int .i64,1,8,some [.int .i64 0]⟩
  | 185=>⟨Ty.func,1,8,none⟩
  | 186=>⟨Ty.func,1,8,none⟩
  | 187=>⟨Ty.func,1,8,none⟩
  | 189=>⟨Ty.func,1,8,none⟩
  | 190=>⟨Ty.func,1,8,none⟩
  | 191=>⟨Ty.int .u32,1,4,some [.int .u32 0]⟩
  | 192=>⟨Ty.func,1,8,none⟩
  | 193=>⟨Ty.int .u64,1,8,some [.int .u64 0]⟩
  | 194=>⟨Ty.func,1,8,none⟩
  | 195=>⟨Ty.strct [(0,3),(1,3)],2,16,some [.int .i64 0,.int .i64 0]⟩
  | 196=>⟨Ty.strct [(0,9),(1,195)],3,32,some [.str [],.int .i64 0,.int .i64 0]⟩
  | 197=>⟨Ty.strct [(0,9),(1,195)],3,32,some [.str [],.int .i64 0,.int .i64 0]⟩
  | 198=>⟨Ty.func,1,8,none⟩
  | 199=>⟨Ty.func,1,8,none⟩
  | 200=>⟨Ty.slice 9,1,24,some [.sl 1 [] .full]⟩
  | 201=>⟨Ty.func,1,8,none⟩
  | 202=>⟨Ty.func,1,8,none⟩
  | 203=>⟨Ty.func,1,8,none⟩
  | 204=>⟨Ty.func,1,8,none⟩
  | 205=>⟨Ty.func,1,8,none⟩
  | 206=>⟨Ty.slice 132,1,24,some [.sl 2 [] .full]⟩
  | 208=>⟨Ty.func,1,8,none⟩
  | 209=>⟨Ty.func,1,8,none⟩
  | 210=>⟨Ty.func,1,8,none⟩
  | 212=>⟨Ty.func,1,8,none⟩
  | 213=>⟨Ty.int .u64,1,8,some [.int .u64 0]⟩
  | 214=>⟨Ty.func,1,8,none⟩
  | 215=>⟨Ty.func,1,8,none⟩
  | 216=>⟨Ty.func,1,8,none⟩
  | 217=>⟨Ty.ptr,1,8,none⟩
  | 218=>⟨Ty.func,1,8,none⟩
  | 219=>⟨Ty.func,1,8,none⟩
  | 220=>⟨Ty.func,1,8,none⟩
  | _=>⟨.other,0,0,none⟩
set_option maxRecDepth 100000 in
def tyT3 : Nat → TyI
  | 221=>⟨Ty.ptr,1,8,none⟩
  | 223=>⟨Ty.func,1,8,none⟩
  | 224=>⟨Ty.func,1,8,none⟩
  | 225=>⟨Ty.strct [(0,17),(1,17),(2,17),(3,9)],4,40,none⟩
  | 226=>⟨Ty.strct [(0,17),(1,17),(2,17),(3,9)],4,40,none⟩
  | 228=>⟨Ty.strct [(0,227)],0,0,none⟩
  | 229=>⟨Ty.strct [(0,227)],0,0,none⟩
  | 230=>⟨Ty.func,1,8,none⟩
  | 231=>⟨Ty.int .u8,1,1,some [.int .u8 0]⟩
  | 232=>⟨Ty.int .u8,1,1,some [.int .u8 0]⟩
  | 233=>⟨Ty.func,1,8,none⟩
  | 234=>⟨Ty.ptr,1,8,none⟩
  | 235=>⟨Ty.int .i32,1,4,some [.int .i32 0]⟩
  | 236=>⟨Ty.int .i32,1,4,some [.int .i32 0]⟩
  | 237=>⟨Ty.strct [(0,12),(1,12),(2,191),(3,231),(4,5),(5,5),(6,232),(7,233),(8,234),(9,235),(10,236)],11,48,none⟩
  | 238=>⟨Ty.strct [(0,12),(1,12),(2,191),(3,231),(4,5),(5,5),(6,232),(7,233),(8,234),(9,235),(10,236)],11,48,none⟩
  | 239=>⟨Ty.func,1,8,none⟩
  | 240=>⟨Ty.func,1,8,none⟩
  | _=>⟨.other,0,0,none⟩
def tyT (n : Nat) : TyI:=if n ≤ 75 then tyT0 n else if n ≤ 146 then tyT1 n else if n ≤ 220 then tyT2 n else tyT3 n
theorem tyOK1 : TyOK Try.prog 1 (tyT 1):=⟨⟨_,_,_,Try.underlying1⟩,⟨Try.t1,Try.type1,rfl,rfl,trivial⟩⟩
theorem tyOK2 : TyOK Try.prog 2 (tyT 2):=⟨Try.underlying2,⟨Try.t2,Try.type2,rfl,rfl,⟨rfl,rfl,rfl,fun h=>by first|rfl|cases h⟩⟩⟩
theorem tyOK3 : TyOK Try.prog 3 (tyT 3):=⟨Try.underlying3,⟨Try.t3,Try.type3,rfl,rfl,⟨rfl,rfl,rfl,fun h=>by first|rfl|cases h⟩⟩⟩
theorem tyOK4 : TyOK Try.prog 4 (tyT 4):=⟨Try.underlying4,⟨Try.t4,Try.type4,rfl,rfl,⟨rfl,rfl,rfl,fun h=>by first|rfl|cases h⟩⟩⟩
theorem tyOK5 : TyOK Try.prog 5 (tyT 5):=⟨Try.underlying5,⟨Try.t5,Try.type5,rfl,rfl,⟨rfl,rfl,rfl,fun h=>by first|rfl|cases h⟩⟩⟩
theorem tyOK6 : TyOK Try.prog 6 (tyT 6):=⟨Try.underlying6,⟨Try.t6,Try.type6,rfl,rfl,⟨rfl,rfl,rfl,fun h=>by first|rfl|cases h⟩⟩⟩
theorem tyOK7 : TyOK Try.prog 7 (tyT 7):=⟨⟨_,Try.underlying7,rfl⟩,⟨Try.t7,Try.type7,rfl,rfl,⟨rfl,rfl,rfl,fun h=>by first|rfl|cases h⟩⟩⟩
theorem tyOK8 : TyOK Try.prog 8 (tyT 8):=⟨⟨_,Try.underlying8,rfl⟩,⟨Try.t8,Try.type8,rfl,rfl,⟨rfl,rfl,rfl,fun h=>by first|rfl|cases h⟩⟩⟩
theorem tyOK9 : TyOK Try.prog 9 (tyT 9):=⟨Try.underlying9,⟨Try.t9,Try.type9,rfl,rfl,⟨rfl,rfl,rfl,fun h=>by first|rfl|cases h⟩⟩⟩
theorem tyOK10 : TyOK Try.prog 10 (tyT 10):=⟨Try.underlying10,⟨Try.t10,Try.type10,rfl,rfl,⟨rfl,rfl,rfl,fun h=>by first|rfl|cases h⟩⟩⟩
theorem tyOK11 : TyOK Try.prog 11 (tyT 11):=⟨Try.underlying11,⟨Try.t11,Try.type11,rfl,rfl,⟨rfl,rfl,rfl,fun h=>by first|rfl|cases h⟩⟩⟩
theorem tyOK12 : TyOK Try.prog 12 (tyT 12):=⟨Try.underlying12,⟨Try.t12,Try.type12,rfl,rfl,⟨rfl,rfl,rfl,fun h=>by first|rfl|cases h⟩⟩⟩
theorem tyOK13 : TyOK Try.prog 13 (tyT 13):=⟨⟨_,Try.underlying13,rfl⟩,⟨Try.t13,Try.type13,rfl,rfl,⟨rfl,rfl,rfl,fun h=>by first|rfl|cases h⟩⟩⟩
theorem tyOK14 : TyOK Try.prog 14 (tyT 14):=⟨⟨_,Try.underlying14,rfl⟩,⟨Try.t14,Try.type14,rfl,rfl,⟨rfl,rfl,rfl,fun h=>by first|rfl|cases h⟩⟩⟩
theorem tyOK15 : TyOK Try.prog 15 (tyT 15):=⟨⟨_,Try.underlying15⟩,⟨Try.t15,Try.type15,rfl,rfl,trivial⟩⟩
theorem tyOK16 : TyOK Try.prog 16 (tyT 16):=⟨⟨_,Try.underlying16⟩,⟨Try.t16,Try.type16,rfl,rfl,trivial⟩⟩
theorem tyOK17 : TyOK Try.prog 17 (tyT 17):=⟨⟨_,Try.underlying17⟩,⟨Try.t17,Try.type17,rfl,rfl,trivial⟩⟩
theorem tyOK18 : TyOK Try.prog 18 (tyT 18):=⟨⟨_,Try.underlying18,rfl⟩,⟨Try.t18,Try.type18,rfl,rfl,trivial⟩⟩
theorem tyOK19 : TyOK Try.prog 19 (tyT 19):=⟨⟨_,Try.underlying19,rfl⟩,⟨Try.t19,Try.type19,rfl,rfl,trivial⟩⟩
theorem tyOK20 : TyOK Try.prog 20 (tyT 20):=⟨⟨_,Try.underlying20⟩,⟨Try.t20,Try.type20,rfl,rfl,trivial⟩⟩
theorem tyOK21 : TyOK Try.prog 21 (tyT 21):=⟨Try.underlying21,⟨Try.t21,Try.type21,rfl,rfl,⟨rfl,rfl,rfl,fun h=>by first|rfl|cases h⟩⟩⟩
theorem tyOK22 : TyOK Try.prog 22 (tyT 22):=⟨Try.underlying22,⟨Try.t22,Try.type22,rfl,rfl,⟨rfl,rfl,rfl,fun h=>by first|rfl|cases h⟩⟩⟩
theorem tyOK23 : TyOK Try.prog 23 (tyT 23):=⟨Try.underlying23,⟨Try.t23,Try.type23,rfl,rfl,⟨rfl,rfl,rfl,fun h=>by first|rfl|cases h⟩⟩⟩
theorem tyOK25 : TyOK Try.prog 25 (tyT 25):=⟨⟨_,_,_,Try.underlying25⟩,⟨Try.t25,Try.type25,rfl,rfl,trivial⟩⟩
theorem tyOK27 : TyOK Try.prog 27 (tyT 27):=⟨⟨_,_,_,Try.underlying27⟩,⟨Try.t27,Try.type27,rfl,rfl,trivial⟩⟩
theorem tyOK28 : TyOK Try.prog 28 (tyT 28):=⟨⟨_,_,_,Try.underlying28⟩,⟨Try.t28,Try.type28,rfl,rfl,trivial⟩⟩
theorem tyOK29 : TyOK Try.prog 29 (tyT 29):=⟨⟨_,_,_,Try.underlying29⟩,⟨Try.t29,Try.type29,rfl,rfl,trivial⟩⟩
theorem tyOK30 : TyOK Try.prog 30 (tyT 30):=⟨⟨_,_,_,Try.underlying30⟩,⟨Try.t30,Try.type30,rfl,rfl,trivial⟩⟩
theorem tyOK31 : TyOK Try.prog 31 (tyT 31):=⟨⟨_,_,_,Try.underlying31⟩,⟨Try.t31,Try.type31,rfl,rfl,trivial⟩⟩
theorem tyOK32 : TyOK Try.prog 32 (tyT 32):=⟨⟨_,_,_,Try.underlying32⟩,⟨Try.t32,Try.type32,rfl,rfl,trivial⟩⟩
theorem tyOK33 : TyOK Try.prog 33 (tyT 33):=⟨Try.underlying33,⟨Try.t33,Try.type33,rfl,rfl,⟨rfl,rfl,rfl,fun h=>by first|rfl|cases h⟩⟩⟩
theorem tyOK34 : TyOK Try.prog 34 (tyT 34):=⟨⟨_,_,_,Try.underlying34⟩,⟨Try.t34,Try.type34,rfl,rfl,trivial⟩⟩
theorem tyOK35 : TyOK Try.prog 35 (tyT 35):=⟨⟨_,_,_,Try.underlying35⟩,⟨Try.t35,Try.type35,rfl,rfl,trivial⟩⟩
theorem tyOK36 : TyOK Try.prog 36 (tyT 36):=⟨⟨_,_,_,Try.underlying36⟩,⟨Try.t36,Try.type36,rfl,rfl,trivial⟩⟩
theorem tyOK37 : TyOK Try.prog 37 (tyT 37):=⟨⟨_,_,_,Try.underlying37⟩,⟨Try.t37,Try.type37,rfl,rfl,trivial⟩⟩
theorem tyOK38 : TyOK Try.prog 38 (tyT 38):=⟨Try.underlying38,⟨Try.t38,Try.type38,rfl,rfl,⟨rfl,rfl,rfl,fun h=>by first|rfl|cases h⟩⟩⟩
theorem tyOK39 : TyOK Try.prog 39 (tyT 39):=⟨⟨_,Try.underlying39,rfl⟩,⟨Try.t39,Try.type39,rfl,rfl,⟨rfl,rfl,rfl,fun h=>by first|rfl|cases h⟩⟩⟩
theorem tyOK40 : TyOK Try.prog 40 (tyT 40):=⟨⟨_,Try.underlying40,rfl⟩,⟨Try.t40,Try.type40,rfl,rfl,⟨rfl,rfl,rfl,fun h=>by first|rfl|cases h⟩⟩⟩
theorem tyOK41 : TyOK Try.prog 41 (tyT 41):=⟨⟨_,_,_,Try.underlying41⟩,⟨Try.t41,Try.type41,rfl,rfl,trivial⟩⟩
theorem tyOK42 : TyOK Try.prog 42 (tyT 42):=⟨⟨_,_,_,Try.underlying42⟩,⟨Try.t42,Try.type42,rfl,rfl,trivial⟩⟩
theorem tyOK43 : TyOK Try.prog 43 (tyT 43):=⟨⟨_,_,_,Try.underlying43⟩,⟨Try.t43,Try.type43,rfl,rfl,trivial⟩⟩
theorem tyOK44 : TyOK Try.prog 44 (tyT 44):=⟨Try.underlying44,⟨Try.t44,Try.type44,rfl,rfl,⟨rfl,rfl,rfl,fun h=>by first|rfl|cases h⟩⟩⟩
theorem tyOK45 : TyOK Try.prog 45 (tyT 45):=⟨⟨_,Try.underlying45,rfl⟩,⟨Try.t45,Try.type45,rfl,rfl,⟨rfl,rfl,rfl,fun h=>by first|rfl|cases h⟩⟩⟩
theorem tyOK46 : TyOK Try.prog 46 (tyT 46):=⟨⟨_,Try.underlying46,rfl⟩,⟨Try.t46,Try.type46,rfl,rfl,⟨rfl,rfl,rfl,fun h=>by first|rfl|cases h⟩⟩⟩
theorem tyOK47 : TyOK Try.prog 47 (tyT 47):=⟨⟨_,_,_,Try.underlying47⟩,⟨Try.t47,Try.type47,rfl,rfl,trivial⟩⟩
theorem tyOK48 : TyOK Try.prog 48 (tyT 48):=⟨⟨_,_,_,Try.underlying48⟩,⟨Try.t48,Try.type48,rfl,rfl,trivial⟩⟩
theorem tyOK49 : TyOK Try.prog 49 (tyT 49):=⟨⟨_,_,_,Try.underlying49⟩,⟨Try.t49,Try.type49,rfl,rfl,trivial⟩⟩
theorem tyOK50 : TyOK Try.prog 50 (tyT 50):=⟨⟨_,_,_,Try.underlying50⟩,⟨Try.t50,Try.type50,rfl,rfl,trivial⟩⟩
theorem tyOK51 : TyOK Try.prog 51 (tyT 51):=⟨Try.underlying51,⟨Try.t51,Try.type51,rfl,rfl,⟨rfl,rfl,rfl,fun h=>by first|rfl|cases h⟩⟩⟩
theorem tyOK52 : TyOK Try.prog 52 (tyT 52):=⟨⟨_,Try.underlying52,rfl⟩,⟨Try.t52,Try.type52,rfl,rfl,⟨rfl,rfl,rfl,fun h=>by first|rfl|cases h⟩⟩⟩
theorem tyOK53 : TyOK Try.prog 53 (tyT 53):=⟨⟨_,Try.underlying53,rfl⟩,⟨Try.t53,Try.type53,rfl,rfl,⟨rfl,rfl,rfl,fun h=>by first|rfl|cases h⟩⟩⟩
theorem tyOK54 : TyOK Try.prog 54 (tyT 54):=⟨Try.underlying54,⟨Try.t54,Try.type54,rfl,rfl,⟨rfl,rfl,rfl,fun h=>by first|rfl|cases h⟩⟩⟩
theorem tyOK55 : TyOK Try.prog 55 (tyT 55):=⟨⟨_,Try.underlying55,rfl⟩,⟨Try.t55,Try.type55,rfl,rfl,⟨rfl,rfl,rfl,fun h=>by first|rfl|cases h⟩⟩⟩
theorem tyOK56 : TyOK Try.prog 56 (tyT 56):=⟨⟨_,Try.underlying56,rfl⟩,⟨Try.t56,Try.type56,rfl,rfl,⟨rfl,rfl,rfl,fun h=>by first|rfl|cases h⟩⟩⟩
theorem tyOK58 : TyOK Try.prog 58 (tyT 58):=⟨⟨_,_,_,Try.underlying58⟩,⟨Try.t58,Try.type58,rfl,rfl,trivial⟩⟩
theorem tyOK60 : TyOK Try.prog 60 (tyT 60):=⟨⟨_,_,_,Try.underlying60⟩,⟨Try.t60,Try.type60,rfl,rfl,trivial⟩⟩
theorem tyOK61 : TyOK Try.prog 61 (tyT 61):=⟨⟨_,_,_,Try.underlying61⟩,⟨Try.t61,Try.type61,rfl,rfl,trivial⟩⟩
theorem tyOK62 : TyOK Try.prog 62 (tyT 62):=⟨Try.underlying62,⟨Try.t62,Try.type62,rfl,rfl,⟨rfl,rfl,rfl,fun h=>by first|rfl|cases h⟩⟩⟩
theorem tyOK63 : TyOK Try.prog 63 (tyT 63):=⟨⟨_,Try.underlying63,rfl⟩,⟨Try.t63,Try.type63,rfl,rfl,⟨rfl,rfl,rfl,fun h=>by first|rfl|cases h⟩⟩⟩
theorem tyOK64 : TyOK Try.prog 64 (tyT 64):=⟨⟨_,Try.underlying64,rfl⟩,⟨Try.t64,Try.type64,rfl,rfl,⟨rfl,rfl,rfl,fun h=>by first|rfl|cases h⟩⟩⟩
theorem tyOK66 : TyOK Try.prog 66 (tyT 66):=⟨⟨_,_,_,Try.underlying66⟩,⟨Try.t66,Try.type66,rfl,rfl,trivial⟩⟩
theorem tyOK67 : TyOK Try.prog 67 (tyT 67):=⟨⟨_,_,_,Try.underlying67⟩,⟨Try.t67,Try.type67,rfl,rfl,trivial⟩⟩
theorem tyOK68 : TyOK Try.prog 68 (tyT 68):=⟨⟨_,_,_,Try.underlying68⟩,⟨Try.t68,Try.type68,rfl,rfl,trivial⟩⟩
theorem tyOK69 : TyOK Try.prog 69 (tyT 69):=⟨Try.underlying69,⟨Try.t69,Try.type69,rfl,rfl,⟨rfl,rfl,rfl,fun h=>by first|rfl|cases h⟩⟩⟩
theorem tyOK70 : TyOK Try.prog 70 (tyT 70):=⟨⟨_,_,_,Try.underlying70⟩,⟨Try.t70,Try.type70,rfl,rfl,trivial⟩⟩
theorem tyOK71 : TyOK Try.prog 71 (tyT 71):=⟨⟨_,_,_,Try.underlying71⟩,⟨Try.t71,Try.type71,rfl,rfl,trivial⟩⟩
theorem tyOK72 : TyOK Try.prog 72 (tyT 72):=⟨Try.underlying72,⟨Try.t72,Try.type72,rfl,rfl,⟨rfl,rfl,rfl,fun h=>by first|rfl|cases h⟩⟩⟩
theorem tyOK73 : TyOK Try.prog 73 (tyT 73):=⟨⟨_,Try.underlying73,rfl⟩,⟨Try.t73,Try.type73,rfl,rfl,⟨rfl,rfl,rfl,fun h=>by first|rfl|cases h⟩⟩⟩
theorem tyOK74 : TyOK Try.prog 74 (tyT 74):=⟨⟨_,Try.underlying74,rfl⟩,⟨Try.t74,Try.type74,rfl,rfl,⟨rfl,rfl,rfl,fun h=>by first|rfl|cases h⟩⟩⟩
theorem tyOK75 : TyOK Try.prog 75 (tyT 75):=⟨Try.underlying75,⟨Try.t75,Try.type75,rfl,rfl,⟨rfl,rfl,rfl,fun h=>by first|rfl|cases h⟩⟩⟩
theorem tyOK76 : TyOK Try.prog 76 (tyT 76):=⟨⟨_,Try.underlying76,rfl⟩,⟨Try.t76,Try.type76,rfl,rfl,⟨rfl,rfl,rfl,fun h=>by first|rfl|cases h⟩⟩⟩
theorem tyOK77 : TyOK Try.prog 77 (tyT 77):=⟨⟨_,Try.underlying77,rfl⟩,⟨Try.t77,Try.type77,rfl,rfl,⟨rfl,rfl,rfl,fun h=>by first|rfl|cases h⟩⟩⟩
theorem tyOK78 : TyOK Try.prog 78 (tyT 78):=⟨⟨_,_,_,Try.underlying78⟩,⟨Try.t78,Try.type78,rfl,rfl,trivial⟩⟩
theorem tyOK79 : TyOK Try.prog 79 (tyT 79):=⟨⟨_,_,_,Try.underlying79⟩,⟨Try.t79,Try.type79,rfl,rfl,trivial⟩⟩
theorem tyOK80 : TyOK Try.prog 80 (tyT 80):=⟨⟨_,_,_,Try.underlying80⟩,⟨Try.t80,Try.type80,rfl,rfl,trivial⟩⟩
theorem tyOK81 : TyOK Try.prog 81 (tyT 81):=⟨⟨_,_,_,Try.underlying81⟩,⟨Try.t81,Try.type81,rfl,rfl,trivial⟩⟩
theorem tyOK82 : TyOK Try.prog 82 (tyT 82):=⟨⟨_,_,_,Try.underlying82⟩,⟨Try.t82,Try.type82,rfl,rfl,trivial⟩⟩
theorem tyOK83 : TyOK Try.prog 83 (tyT 83):=⟨⟨_,_,_,Try.underlying83⟩,⟨Try.t83,Try.type83,rfl,rfl,trivial⟩⟩
theorem tyOK84 : TyOK Try.prog 84 (tyT 84):=⟨⟨_,_,_,Try.underlying84⟩,⟨Try.t84,Try.type84,rfl,rfl,trivial⟩⟩
theorem tyOK85 : TyOK Try.prog 85 (tyT 85):=⟨⟨_,_,_,Try.underlying85⟩,⟨Try.t85,Try.type85,rfl,rfl,trivial⟩⟩
theorem tyOK86 : TyOK Try.prog 86 (tyT 86):=⟨⟨_,_,_,Try.underlying86⟩,⟨Try.t86,Try.type86,rfl,rfl,trivial⟩⟩
theorem tyOK87 : TyOK Try.prog 87 (tyT 87):=⟨⟨_,_,_,Try.underlying87⟩,⟨Try.t87,Try.type87,rfl,rfl,trivial⟩⟩
theorem tyOK88 : TyOK Try.prog 88 (tyT 88):=⟨Try.underlying88,⟨Try.t88,Try.type88,rfl,rfl,⟨rfl,rfl,rfl,fun h=>by first|rfl|cases h⟩⟩⟩
theorem tyOK89 : TyOK Try.prog 89 (tyT 89):=⟨⟨_,Try.underlying89,rfl⟩,⟨Try.t89,Try.type89,rfl,rfl,⟨rfl,rfl,rfl,fun h=>by first|rfl|cases h⟩⟩⟩
theorem tyOK90 : TyOK Try.prog 90 (tyT 90):=⟨⟨_,Try.underlying90,rfl⟩,⟨Try.t90,Try.type90,rfl,rfl,⟨rfl,rfl,rfl,fun h=>by first|rfl|cases h⟩⟩⟩
theorem tyOK91 : TyOK Try.prog 91 (tyT 91):=⟨⟨_,_,_,Try.underlying91⟩,⟨Try.t91,Try.type91,rfl,rfl,trivial⟩⟩
theorem tyOK92 : TyOK Try.prog 92 (tyT 92):=⟨⟨_,_,_,Try.underlying92⟩,⟨Try.t92,Try.type92,rfl,rfl,trivial⟩⟩
theorem tyOK93 : TyOK Try.prog 93 (tyT 93):=⟨⟨_,_,_,Try.underlying93⟩,⟨Try.t93,Try.type93,rfl,rfl,trivial⟩⟩
theorem tyOK94 : TyOK Try.prog 94 (tyT 94):=⟨⟨_,_,_,Try.underlying94⟩,⟨Try.t94,Try.type94,rfl,rfl,trivial⟩⟩
theorem tyOK95 : TyOK Try.prog 95 (tyT 95):=⟨⟨_,_,_,Try.underlying95⟩,⟨Try.t95,Try.type95,rfl,rfl,trivial⟩⟩
theorem tyOK96 : TyOK Try.prog 96 (tyT 96):=⟨⟨_,_,_,Try.underlying96⟩,⟨Try.t96,Try.type96,rfl,rfl,trivial⟩⟩
theorem tyOK97 : TyOK Try.prog 97 (tyT 97):=⟨⟨_,_,_,Try.underlying97⟩,⟨Try.t97,Try.type97,rfl,rfl,trivial⟩⟩
theorem tyOK98 : TyOK Try.prog 98 (tyT 98):=⟨⟨_,_,_,Try.underlying98⟩,⟨Try.t98,Try.type98,rfl,rfl,trivial⟩⟩
theorem tyOK99 : TyOK Try.prog 99 (tyT 99):=⟨⟨_,_,_,Try.underlying99⟩,⟨Try.t99,Try.type99,rfl,rfl,trivial⟩⟩
theorem tyOK100 : TyOK Try.prog 100 (tyT 100):=⟨⟨_,_,_,Try.underlying100⟩,⟨Try.t100,Try.type100,rfl,rfl,trivial⟩⟩
theorem tyOK101 : TyOK Try.prog 101 (tyT 101):=⟨⟨_,_,_,Try.underlying101⟩,⟨Try.t101,Try.type101,rfl,rfl,trivial⟩⟩
theorem tyOK102 : TyOK Try.prog 102 (tyT 102):=⟨Try.underlying102,⟨Try.t102,Try.type102,rfl,rfl,⟨rfl,rfl,rfl,fun h=>by first|rfl|cases h⟩⟩⟩
theorem tyOK103 : TyOK Try.prog 103 (tyT 103):=⟨⟨_,Try.underlying103,rfl⟩,⟨Try.t103,Try.type103,rfl,rfl,⟨rfl,rfl,rfl,fun h=>by first|rfl|cases h⟩⟩⟩
theorem tyOK104 : TyOK Try.prog 104 (tyT 104):=⟨⟨_,Try.underlying104,rfl⟩,⟨Try.t104,Try.type104,rfl,rfl,⟨rfl,rfl,rfl,fun h=>by first|rfl|cases h⟩⟩⟩
theorem tyOK105 : TyOK Try.prog 105 (tyT 105):=⟨⟨_,_,_,Try.underlying105⟩,⟨Try.t105,Try.type105,rfl,rfl,trivial⟩⟩
theorem tyOK106 : TyOK Try.prog 106 (tyT 106):=⟨⟨_,_,_,Try.underlying106⟩,⟨Try.t106,Try.type106,rfl,rfl,trivial⟩⟩
theorem tyOK107 : TyOK Try.prog 107 (tyT 107):=⟨⟨_,_,_,Try.underlying107⟩,⟨Try.t107,Try.type107,rfl,rfl,trivial⟩⟩
theorem tyOK108 : TyOK Try.prog 108 (tyT 108):=⟨⟨_,_,_,Try.underlying108⟩,⟨Try.t108,Try.type108,rfl,rfl,trivial⟩⟩
theorem tyOK109 : TyOK Try.prog 109 (tyT 109):=⟨⟨_,_,_,Try.underlying109⟩,⟨Try.t109,Try.type109,rfl,rfl,trivial⟩⟩
theorem tyOK110 : TyOK Try.prog 110 (tyT 110):=⟨⟨_,Try.underlying110⟩,⟨Try.t110,Try.type110,rfl,rfl,trivial⟩⟩
theorem tyOK111 : TyOK Try.prog 111 (tyT 111):=⟨⟨_,_,_,Try.underlying111⟩,⟨Try.t111,Try.type111,rfl,rfl,trivial⟩⟩
theorem tyOK112 : TyOK Try.prog 112 (tyT 112):=⟨Try.underlying112,⟨Try.t112,Try.type112,rfl,rfl,trivial⟩⟩
theorem tyOK113 : TyOK Try.prog 113 (tyT 113):=⟨⟨_,Try.underlying113,rfl⟩,⟨Try.t113,Try.type113,rfl,rfl,⟨rfl,rfl,rfl,fun h=>by first|rfl|cases h⟩⟩⟩
theorem tyOK114 : TyOK Try.prog 114 (tyT 114):=⟨⟨_,Try.underlying114,rfl⟩,⟨Try.t114,Try.type114,rfl,rfl,⟨rfl,rfl,rfl,fun h=>by first|rfl|cases h⟩⟩⟩
theorem tyOK115 : TyOK Try.prog 115 (tyT 115):=⟨⟨_,_,_,Try.underlying115⟩,⟨Try.t115,Try.type115,rfl,rfl,trivial⟩⟩
theorem tyOK116 : TyOK Try.prog 116 (tyT 116):=⟨⟨_,_,_,Try.underlying116⟩,⟨Try.t116,Try.type116,rfl,rfl,trivial⟩⟩
theorem tyOK117 : TyOK Try.prog 117 (tyT 117):=⟨⟨_,_,_,Try.underlying117⟩,⟨Try.t117,Try.type117,rfl,rfl,trivial⟩⟩
theorem tyOK118 : TyOK Try.prog 118 (tyT 118):=⟨⟨_,_,_,Try.underlying118⟩,⟨Try.t118,Try.type118,rfl,rfl,trivial⟩⟩
theorem tyOK119 : TyOK Try.prog 119 (tyT 119):=⟨⟨_,_,_,Try.underlying119⟩,⟨Try.t119,Try.type119,rfl,rfl,trivial⟩⟩
theorem tyOK120 : TyOK Try.prog 120 (tyT 120):=⟨⟨_,_,_,Try.underlying120⟩,⟨Try.t120,Try.type120,rfl,rfl,trivial⟩⟩
theorem tyOK121 : TyOK Try.prog 121 (tyT 121):=⟨⟨_,_,_,Try.underlying121⟩,⟨Try.t121,Try.type121,rfl,rfl,trivial⟩⟩
theorem tyOK122 : TyOK Try.prog 122 (tyT 122):=⟨⟨_,_,_,Try.underlying122⟩,⟨Try.t122,Try.type122,rfl,rfl,trivial⟩⟩
theorem tyOK123 : TyOK Try.prog 123 (tyT 123):=⟨⟨_,_,_,Try.underlying123⟩,⟨Try.t123,Try.type123,rfl,rfl,trivial⟩⟩
theorem tyOK124 : TyOK Try.prog 124 (tyT 124):=⟨⟨_,_,_,Try.underlying124⟩,⟨Try.t124,Try.type124,rfl,rfl,trivial⟩⟩
theorem tyOK125 : TyOK Try.prog 125 (tyT 125):=⟨⟨_,_,_,Try.underlying125⟩,⟨Try.t125,Try.type125,rfl,rfl,trivial⟩⟩
theorem tyOK126 : TyOK Try.prog 126 (tyT 126):=⟨⟨_,_,_,Try.underlying126⟩,⟨Try.t126,Try.type126,rfl,rfl,trivial⟩⟩
theorem tyOK127 : TyOK Try.prog 127 (tyT 127):=⟨⟨_,_,_,Try.underlying127⟩,⟨Try.t127,Try.type127,rfl,rfl,trivial⟩⟩
theorem tyOK128 : TyOK Try.prog 128 (tyT 128):=⟨⟨_,_,_,Try.underlying128⟩,⟨Try.t128,Try.type128,rfl,rfl,trivial⟩⟩
theorem tyOK129 : TyOK Try.prog 129 (tyT 129):=⟨⟨_,_,_,Try.underlying129⟩,⟨Try.t129,Try.type129,rfl,rfl,trivial⟩⟩
theorem tyOK130 : TyOK Try.prog 130 (tyT 130):=⟨⟨_,_,_,Try.underlying130⟩,⟨Try.t130,Try.type130,rfl,rfl,trivial⟩⟩
theorem tyOK131 : TyOK Try.prog 131 (tyT 131):=⟨⟨_,Try.underlying131,rfl⟩,⟨Try.t131,Try.type131,rfl,rfl,⟨rfl,rfl,rfl,fun h=>by first|rfl|cases h⟩⟩⟩
theorem tyOK132 : TyOK Try.prog 132 (tyT 132):=⟨⟨_,Try.underlying132,rfl⟩,⟨Try.t132,Try.type132,rfl,rfl,⟨rfl,rfl,rfl,fun h=>by first|rfl|cases h⟩⟩⟩
theorem tyOK134 : TyOK Try.prog 134 (tyT 134):=⟨⟨_,_,_,Try.underlying134⟩,⟨Try.t134,Try.type134,rfl,rfl,trivial⟩⟩
theorem tyOK135 : TyOK Try.prog 135 (tyT 135):=⟨⟨_,_,_,Try.underlying135⟩,⟨Try.t135,Try.type135,rfl,rfl,trivial⟩⟩
theorem tyOK136 : TyOK Try.prog 136 (tyT 136):=⟨⟨_,_,_,Try.underlying136⟩,⟨Try.t136,Try.type136,rfl,rfl,trivial⟩⟩
theorem tyOK137 : TyOK Try.prog 137 (tyT 137):=⟨⟨_,_,_,Try.underlying137⟩,⟨Try.t137,Try.type137,rfl,rfl,trivial⟩⟩
theorem tyOK138 : TyOK Try.prog 138 (tyT 138):=⟨⟨_,_,_,Try.underlying138⟩,⟨Try.t138,Try.type138,rfl,rfl,trivial⟩⟩
theorem tyOK139 : TyOK Try.prog 139 (tyT 139):=⟨⟨_,_,_,Try.underlying139⟩,⟨Try.t139,Try.type139,rfl,rfl,trivial⟩⟩
theorem tyOK140 : TyOK Try.prog 140 (tyT 140):=⟨⟨_,_,_,Try.underlying140⟩,⟨Try.t140,Try.type140,rfl,rfl,trivial⟩⟩
theorem tyOK141 : TyOK Try.prog 141 (tyT 141):=⟨⟨_,_,_,Try.underlying141⟩,⟨Try.t141,Try.type141,rfl,rfl,trivial⟩⟩
theorem tyOK142 : TyOK Try.prog 142 (tyT 142):=⟨⟨_,_,_,Try.underlying142⟩,⟨Try.t142,Try.type142,rfl,rfl,trivial⟩⟩
theorem tyOK143 : TyOK Try.prog 143 (tyT 143):=⟨⟨_,_,_,Try.underlying143⟩,⟨Try.t143,Try.type143,rfl,rfl,trivial⟩⟩
theorem tyOK144 : TyOK Try.prog 144 (tyT 144):=⟨⟨_,_,_,Try.underlying144⟩,⟨Try.t144,Try.type144,rfl,rfl,trivial⟩⟩
theorem tyOK145 : TyOK Try.prog 145 (tyT 145):=⟨⟨_,_,_,Try.underlying145⟩,⟨Try.t145,Try.type145,rfl,rfl,trivial⟩⟩
theorem tyOK146 : TyOK Try.prog 146 (tyT 146):=⟨⟨_,Try.underlying146,rfl⟩,⟨Try.t146,Try.type146,rfl,rfl,⟨rfl,rfl,rfl,fun h=>by first|rfl|cases h⟩⟩⟩
theorem tyOK147 : TyOK Try.prog 147 (tyT 147):=⟨⟨_,Try.underlying147,rfl⟩,⟨Try.t147,Try.type147,rfl,rfl,⟨rfl,rfl,rfl,fun h=>by first|rfl|cases h⟩⟩⟩
theorem tyOK148 : TyOK Try.prog 148 (tyT 148):=⟨⟨_,_,_,Try.underlying148⟩,⟨Try.t148,Try.type148,rfl,rfl,trivial⟩⟩
theorem tyOK149 : TyOK Try.prog 149 (tyT 149):=⟨⟨_,_,_,Try.underlying149⟩,⟨Try.t149,Try.type149,rfl,rfl,trivial⟩⟩
theorem tyOK150 : TyOK Try.prog 150 (tyT 150):=⟨⟨_,_,_,Try.underlying150⟩,⟨Try.t150,Try.type150,rfl,rfl,trivial⟩⟩
theorem tyOK151 : TyOK Try.prog 151 (tyT 151):=⟨Try.underlying151,⟨Try.t151,Try.type151,rfl,rfl,⟨rfl,rfl,rfl,fun h=>by first|rfl|cases h⟩⟩⟩
theorem tyOK152 : TyOK Try.prog 152 (tyT 152):=⟨⟨_,_,_,Try.underlying152⟩,⟨Try.t152,Try.type152,rfl,rfl,trivial⟩⟩
theorem tyOK153 : TyOK Try.prog 153 (tyT 153):=⟨⟨_,_,_,Try.underlying153⟩,⟨Try.t153,Try.type153,rfl,rfl,trivial⟩⟩
theorem tyOK154 : TyOK Try.prog 154 (tyT 154):=⟨⟨_,_,_,Try.underlying154⟩,⟨Try.t154,Try.type154,rfl,rfl,trivial⟩⟩
theorem tyOK155 : TyOK Try.prog 155 (tyT 155):=⟨⟨_,_,_,Try.underlying155⟩,⟨Try.t155,Try.type155,rfl,rfl,trivial⟩⟩
theorem tyOK156 : TyOK Try.prog 156 (tyT 156):=⟨⟨_,_,_,Try.underlying156⟩,⟨Try.t156,Try.type156,rfl,rfl,trivial⟩⟩
theorem tyOK157 : TyOK Try.prog 157 (tyT 157):=⟨⟨_,Try.underlying157,rfl⟩,⟨Try.t157,Try.type157,rfl,rfl,⟨rfl,rfl,rfl,fun h=>by first|rfl|cases h⟩⟩⟩
theorem tyOK158 : TyOK Try.prog 158 (tyT 158):=⟨⟨_,Try.underlying158,rfl⟩,⟨Try.t158,Try.type158,rfl,rfl,⟨rfl,rfl,rfl,fun h=>by first|rfl|cases h⟩⟩⟩
theorem tyOK159 : TyOK Try.prog 159 (tyT 159):=⟨⟨_,_,_,Try.underlying159⟩,⟨Try.t159,Try.type159,rfl,rfl,trivial⟩⟩
theorem tyOK160 : TyOK Try.prog 160 (tyT 160):=⟨⟨_,Try.underlying160,rfl⟩,⟨Try.t160,Try.type160,rfl,rfl,⟨rfl,rfl,rfl,fun h=>by first|rfl|cases h⟩⟩⟩
theorem tyOK161 : TyOK Try.prog 161 (tyT 161):=⟨⟨_,Try.underlying161,rfl⟩,⟨Try.t161,Try.type161,rfl,rfl,⟨rfl,rfl,rfl,fun h=>by first|rfl|cases h⟩⟩⟩
theorem tyOK162 : TyOK Try.prog 162 (tyT 162):=⟨⟨_,_,_,Try.underlying162⟩,⟨Try.t162,Try.type162,rfl,rfl,trivial⟩⟩
theorem tyOK163 : TyOK Try.prog 163 (tyT 163):=⟨⟨_,_,_,Try.underlying163⟩,⟨Try.t163,Try.type163,rfl,rfl,trivial⟩⟩
theorem tyOK164 : TyOK Try.prog 164 (tyT 164):=⟨⟨_,Try.underlying164,rfl⟩,⟨Try.t164,Try.type164,rfl,rfl,⟨rfl,rfl,rfl,fun h=>by first|rfl|cases h⟩⟩⟩
theorem tyOK165 : TyOK Try.prog 165 (tyT 165):=⟨⟨_,Try.underlying165,rfl⟩,⟨Try.t165,Try.type165,rfl,rfl,⟨rfl,rfl,rfl,fun h=>by first|rfl|cases h⟩⟩⟩
theorem tyOK166 : TyOK Try.prog 166 (tyT 166):=⟨⟨_,_,_,Try.underlying166⟩,⟨Try.t166,Try.type166,rfl,rfl,trivial⟩⟩
theorem tyOK167 : TyOK Try.prog 167 (tyT 167):=⟨⟨_,_,_,Try.underlying167⟩,⟨Try.t167,Try.type167,rfl,rfl,trivial⟩⟩
theorem tyOK168 : TyOK Try.prog 168 (tyT 168):=⟨⟨_,_,_,Try.underlying168⟩,⟨Try.t168,Try.type168,rfl,rfl,trivial⟩⟩
theorem tyOK169 : TyOK Try.prog 169 (tyT 169):=⟨⟨_,_,_,Try.underlying169⟩,⟨Try.t169,Try.type169,rfl,rfl,trivial⟩⟩
theorem tyOK170 : TyOK Try.prog 170 (tyT 170):=⟨⟨_,_,_,Try.underlying170⟩,⟨Try.t170,Try.type170,rfl,rfl,trivial⟩⟩
theorem tyOK171 : TyOK Try.prog 171 (tyT 171):=⟨⟨_,_,_,Try.underlying171⟩,⟨Try.t171,Try.type171,rfl,rfl,trivial⟩⟩
theorem tyOK172 : TyOK Try.prog 172 (tyT 172):=⟨⟨_,_,_,Try.underlying172⟩,⟨Try.t172,Try.type172,rfl,rfl,trivial⟩⟩
theorem tyOK173 : TyOK Try.prog 173 (tyT 173):=⟨Try.underlying173,⟨Try.t173,Try.type173,rfl,rfl,⟨rfl,rfl,rfl,fun h=>by first|rfl|cases h⟩⟩⟩
theorem tyOK174 : TyOK Try.prog 174 (tyT 174):=⟨⟨_,_,_,Try.underlying174⟩,⟨Try.t174,Try.type174,rfl,rfl,trivial⟩⟩
theorem tyOK175 : TyOK Try.prog 175 (tyT 175):=⟨⟨_,Try.underlying175,rfl⟩,⟨Try.t175,Try.type175,rfl,rfl,⟨rfl,rfl,rfl,fun h=>by first|rfl|cases h⟩⟩⟩
theorem tyOK176 : TyOK Try.prog 176 (tyT 176):=⟨⟨_,Try.underlying176,rfl⟩,⟨Try.t176,Try.type176,rfl,rfl,⟨rfl,rfl,rfl,fun h=>by first|rfl|cases h⟩⟩⟩
theorem tyOK177 : TyOK Try.prog 177 (tyT 177):=⟨⟨_,_,_,Try.underlying177⟩,⟨Try.t177,Try.type177,rfl,rfl,trivial⟩⟩
theorem tyOK178 : TyOK Try.prog 178 (tyT 178):=⟨⟨_,_,_,Try.underlying178⟩,⟨Try.t178,Try.type178,rfl,rfl,trivial⟩⟩
theorem tyOK179 : TyOK Try.prog 179 (tyT 179):=⟨⟨_,Try.underlying179,rfl⟩,⟨Try.t179,Try.type179,rfl,rfl,⟨rfl,rfl,rfl,fun h=>by first|rfl|cases h⟩⟩⟩
theorem tyOK180 : TyOK Try.prog 180 (tyT 180):=⟨⟨_,_,_,Try.underlying180⟩,⟨Try.t180,Try.type180,rfl,rfl,trivial⟩⟩
theorem tyOK181 : TyOK Try.prog 181 (tyT 181):=⟨⟨_,_,_,Try.underlying181⟩,⟨Try.t181,Try.type181,rfl,rfl,trivial⟩⟩
theorem tyOK182 : TyOK Try.prog 182 (tyT 182):=⟨⟨_,_,_,Try.underlying182⟩,⟨Try.t182,Try.type182,rfl,rfl,trivial⟩⟩
theorem tyOK183 : TyOK Try.prog 183 (tyT 183):=⟨Try.underlying183,⟨Try.t183,Try.type183,rfl,rfl,⟨rfl,rfl,rfl,fun h=>by first|rfl|cases h⟩⟩⟩
theorem tyOK185 : TyOK Try.prog 185 (tyT 185):=⟨⟨_,_,_,Try.underlying185⟩,⟨Try.t185,Try.type185,rfl,rfl,trivial⟩⟩
theorem tyOK186 : TyOK Try.prog 186 (tyT 186):=⟨⟨_,_,_,Try.underlying186⟩,⟨Try.t186,Try.type186,rfl,rfl,trivial⟩⟩
theorem tyOK187 : TyOK Try.prog 187 (tyT 187):=⟨⟨_,_,_,Try.underlying187⟩,⟨Try.t187,Try.type187,rfl,rfl,trivial⟩⟩
theorem tyOK189 : TyOK Try.prog 189 (tyT 189):=⟨⟨_,_,_,Try.underlying189⟩,⟨Try.t189,Try.type189,rfl,rfl,trivial⟩⟩
theorem tyOK190 : TyOK Try.prog 190 (tyT 190):=⟨⟨_,_,_,Try.underlying190⟩,⟨Try.t190,Try.type190,rfl,rfl,trivial⟩⟩
theorem tyOK191 : TyOK Try.prog 191 (tyT 191):=⟨Try.underlying191,⟨Try.t191,Try.type191,rfl,rfl,⟨rfl,rfl,rfl,fun h=>by first|rfl|cases h⟩⟩⟩
theorem tyOK192 : TyOK Try.prog 192 (tyT 192):=⟨⟨_,_,_,Try.underlying192⟩,⟨Try.t192,Try.type192,rfl,rfl,trivial⟩⟩
theorem tyOK193 : TyOK Try.prog 193 (tyT 193):=⟨Try.underlying193,⟨Try.t193,Try.type193,rfl,rfl,⟨rfl,rfl,rfl,fun h=>by first|rfl|cases h⟩⟩⟩
theorem tyOK194 : TyOK Try.prog 194 (tyT 194):=⟨⟨_,_,_,Try.underlying194⟩,⟨Try.t194,Try.type194,rfl,rfl,trivial⟩⟩
theorem tyOK195 : TyOK Try.prog 195 (tyT 195):=⟨⟨_,Try.underlying195,rfl⟩,⟨Try.t195,Try.type195,rfl,rfl,⟨rfl,rfl,rfl,fun h=>by first|rfl|cases h⟩⟩⟩
theorem tyOK196 : TyOK Try.prog 196 (tyT 196):=⟨⟨_,Try.underlying196,rfl⟩,⟨Try.t196,Try.type196,rfl,rfl,⟨rfl,rfl,rfl,fun h=>by first|rfl|cases h⟩⟩⟩
theorem tyOK197 : TyOK Try.prog 197 (tyT 197):=⟨⟨_,Try.underlying197,rfl⟩,⟨Try.t197,Try.type197,rfl,rfl,⟨rfl,rfl,rfl,fun h=>by first|rfl|cases h⟩⟩⟩
theorem tyOK198 : TyOK Try.prog 198 (tyT 198):=⟨⟨_,_,_,Try.underlying198⟩,⟨Try.t198,Try.type198,rfl,rfl,trivial⟩⟩
theorem tyOK199 : TyOK Try.prog 199 (tyT 199):=⟨⟨_,_,_,Try.underlying199⟩,⟨Try.t199,Try.type199,rfl,rfl,trivial⟩⟩
theorem tyOK200 : TyOK Try.prog 200 (tyT 200):=⟨Try.underlying200,⟨Try.t200,Try.type200,rfl,rfl,⟨rfl,rfl,rfl,fun h=>by first|rfl|cases h⟩⟩⟩
theorem tyOK201 : TyOK Try.prog 201 (tyT 201):=⟨⟨_,_,_,Try.underlying201⟩,⟨Try.t201,Try.type201,rfl,rfl,trivial⟩⟩
theorem tyOK202 : TyOK Try.prog 202 (tyT 202):=⟨⟨_,_,_,Try.underlying202⟩,⟨Try.t202,Try.type202,rfl,rfl,trivial⟩⟩
theorem tyOK203 : TyOK Try.prog 203 (tyT 203):=⟨⟨_,_,_,Try.underlying203⟩,⟨Try.t203,Try.type203,rfl,rfl,trivial⟩⟩
theorem tyOK204 : TyOK Try.prog 204 (tyT 204):=⟨⟨_,_,_,Try.underlying204⟩,⟨Try.t204,Try.type204,rfl,rfl,trivial⟩⟩
theorem tyOK205 : TyOK Try.prog 205 (tyT 205):=⟨⟨_,_,_,Try.underlying205⟩,⟨Try.t205,Try.type205,rfl,rfl,trivial⟩⟩
theorem tyOK206 : TyOK Try.prog 206 (tyT 206):=⟨Try.underlying206,⟨Try.t206,Try.type206,rfl,rfl,⟨rfl,rfl,rfl,fun h=>by first|rfl|cases h⟩⟩⟩
theorem tyOK208 : TyOK Try.prog 208 (tyT 208):=⟨⟨_,_,_,Try.underlying208⟩,⟨Try.t208,Try.type208,rfl,rfl,trivial⟩⟩
theorem tyOK209 : TyOK Try.prog 209 (tyT 209):=⟨⟨_,_,_,Try.underlying209⟩,⟨Try.t209,Try.type209,rfl,rfl,trivial⟩⟩
theorem tyOK210 : TyOK Try.prog 210 (tyT 210):=⟨⟨_,_,_,Try.underlying210⟩,⟨Try.t210,Try.type210,rfl,rfl,trivial⟩⟩
theorem tyOK212 : TyOK Try.prog 212 (tyT 212):=⟨⟨_,_,_,Try.underlying212⟩,⟨Try.t212,Try.type212,rfl,rfl,trivial⟩⟩
theorem tyOK213 : TyOK Try.prog 213 (tyT 213):=⟨Try.underlying213,⟨Try.t213,Try.type213,rfl,rfl,⟨rfl,rfl,rfl,fun h=>by first|rfl|cases h⟩⟩⟩
theorem tyOK214 : TyOK Try.prog 214 (tyT 214):=⟨⟨_,_,_,Try.underlying214⟩,⟨Try.t214,Try.type214,rfl,rfl,trivial⟩⟩
theorem tyOK215 : TyOK Try.prog 215 (tyT 215):=⟨⟨_,_,_,Try.underlying215⟩,⟨Try.t215,Try.type215,rfl,rfl,trivial⟩⟩
theorem tyOK216 : TyOK Try.prog 216 (tyT 216):=⟨⟨_,_,_,Try.underlying216⟩,⟨Try.t216,Try.type216,rfl,rfl,trivial⟩⟩
theorem tyOK217 : TyOK Try.prog 217 (tyT 217):=⟨⟨_,Try.underlying217⟩,⟨Try.t217,Try.type217,rfl,rfl,trivial⟩⟩
theorem tyOK218 : TyOK Try.prog 218 (tyT 218):=⟨⟨_,_,_,Try.underlying218⟩,⟨Try.t218,Try.type218,rfl,rfl,trivial⟩⟩
theorem tyOK219 : TyOK Try.prog 219 (tyT 219):=⟨⟨_,_,_,Try.underlying219⟩,⟨Try.t219,Try.type219,rfl,rfl,trivial⟩⟩
theorem tyOK220 : TyOK Try.prog 220 (tyT 220):=⟨⟨_,_,_,Try.underlying220⟩,⟨Try.t220,Try.type220,rfl,rfl,trivial⟩⟩
theorem tyOK221 : TyOK Try.prog 221 (tyT 221):=⟨⟨_,Try.underlying221⟩,⟨Try.t221,Try.type221,rfl,rfl,trivial⟩⟩
theorem tyOK223 : TyOK Try.prog 223 (tyT 223):=⟨⟨_,_,_,Try.underlying223⟩,⟨Try.t223,Try.type223,rfl,rfl,trivial⟩⟩
theorem tyOK224 : TyOK Try.prog 224 (tyT 224):=⟨⟨_,_,_,Try.underlying224⟩,⟨Try.t224,Try.type224,rfl,rfl,trivial⟩⟩
theorem tyOK225 : TyOK Try.prog 225 (tyT 225):=⟨⟨_,Try.underlying225,rfl⟩,⟨Try.t225,Try.type225,rfl,rfl,trivial⟩⟩
theorem tyOK226 : TyOK Try.prog 226 (tyT 226):=⟨⟨_,Try.underlying226,rfl⟩,⟨Try.t226,Try.type226,rfl,rfl,trivial⟩⟩
theorem tyOK228 : TyOK Try.prog 228 (tyT 228):=⟨⟨_,Try.underlying228,rfl⟩,⟨Try.t228,Try.type228,rfl,rfl,trivial⟩⟩
theorem tyOK229 : TyOK Try.prog 229 (tyT 229):=⟨⟨_,Try.underlying229,rfl⟩,⟨Try.t229,Try.type229,rfl,rfl,trivial⟩⟩
theorem tyOK230 : TyOK Try.prog 230 (tyT 230):=⟨⟨_,_,_,Try.underlying230⟩,⟨Try.t230,Try.type230,rfl,rfl,trivial⟩⟩
theorem tyOK231 : TyOK Try.prog 231 (tyT 231):=⟨Try.underlying231,⟨Try.t231,Try.type231,rfl,rfl,⟨rfl,rfl,rfl,fun h=>by first|rfl|cases h⟩⟩⟩
theorem tyOK232 : TyOK Try.prog 232 (tyT 232):=⟨Try.underlying232,⟨Try.t232,Try.type232,rfl,rfl,⟨rfl,rfl,rfl,fun h=>by first|rfl|cases h⟩⟩⟩
theorem tyOK233 : TyOK Try.prog 233 (tyT 233):=⟨⟨_,_,_,Try.underlying233⟩,⟨Try.t233,Try.type233,rfl,rfl,trivial⟩⟩
theorem tyOK234 : TyOK Try.prog 234 (tyT 234):=⟨⟨_,Try.underlying234⟩,⟨Try.t234,Try.type234,rfl,rfl,trivial⟩⟩
theorem tyOK235 : TyOK Try.prog 235 (tyT 235):=⟨Try.underlying235,⟨Try.t235,Try.type235,rfl,rfl,⟨rfl,rfl,rfl,fun h=>by first|rfl|cases h⟩⟩⟩
theorem tyOK236 : TyOK Try.prog 236 (tyT 236):=⟨Try.underlying236,⟨Try.t236,Try.type236,rfl,rfl,⟨rfl,rfl,rfl,fun h=>by first|rfl|cases h⟩⟩⟩
theorem tyOK237 : TyOK Try.prog 237 (tyT 237):=⟨⟨_,Try.underlying237,rfl⟩,⟨Try.t237,Try.type237,rfl,rfl,trivial⟩⟩
theorem tyOK238 : TyOK Try.prog 238 (tyT 238):=⟨⟨_,Try.underlying238,rfl⟩,⟨Try.t238,Try.type238,rfl,rfl,trivial⟩⟩
theorem tyOK239 : TyOK Try.prog 239 (tyT 239):=⟨⟨_,_,_,Try.underlying239⟩,⟨Try.t239,Try.type239,rfl,rfl,trivial⟩⟩
theorem tyOK240 : TyOK Try.prog 240 (tyT 240):=⟨⟨_,_,_,Try.underlying240⟩,⟨Try.t240,Try.type240,rfl,rfl,trivial⟩⟩
set_option maxRecDepth 100000 in
theorem tyOKc0 : ∀ n,TyOK Try.prog n (tyT0 n):=by
  intro n
  unfold tyT0
  split
  · exact tyOK1
  · exact tyOK2
  · exact tyOK3
  · exact tyOK4
  · exact tyOK5
  · exact tyOK6
  · exact tyOK7
  · exact tyOK8
  · exact tyOK9
  · exact tyOK10
  · exact tyOK11
  · exact tyOK12
  · exact tyOK13
  · exact tyOK14
  · exact tyOK15
  · exact tyOK16
  · exact tyOK17
  · exact tyOK18
  · exact tyOK19
  · exact tyOK20
  · exact tyOK21
  · exact tyOK22
  · exact tyOK23
  · exact tyOK25
  · exact tyOK27
  · exact tyOK28
  · exact tyOK29
  · exact tyOK30
  · exact tyOK31
  · exact tyOK32
  · exact tyOK33
  · exact tyOK34
  · exact tyOK35
  · exact tyOK36
  · exact tyOK37
  · exact tyOK38
  · exact tyOK39
  · exact tyOK40
  · exact tyOK41
  · exact tyOK42
  · exact tyOK43
  · exact tyOK44
  · exact tyOK45
  · exact tyOK46
  · exact tyOK47
  · exact tyOK48
  · exact tyOK49
  · exact tyOK50
  · exact tyOK51
  · exact tyOK52
  · exact tyOK53
  · exact tyOK54
  · exact tyOK55
  · exact tyOK56
  · exact tyOK58
  · exact tyOK60
  · exact tyOK61
  · exact tyOK62
  · exact tyOK63
  · exact tyOK64
  · exact tyOK66
  · exact tyOK67
  · exact tyOK68
  · exact tyOK69
  · exact tyOK70
  · exact tyOK71
  · exact tyOK72
  · exact tyOK73
  · exact tyOK74
  · exact tyOK75
  · exact ⟨trivial,trivial⟩
set_option maxRecDepth 100000 in
theorem tyOKc1 : ∀ n,TyOK Try.prog n (tyT1 n):=by
  intro n
  unfold tyT1
  split
  · exact tyOK76
  · exact tyOK77
  · exact tyOK78
  · exact tyOK79
  · exact tyOK80
  · exact tyOK81
  · exact tyOK82
  · exact tyOK83
  · exact tyOK84
  · exact tyOK85
  · exact tyOK86
  · exact tyOK87
  · exact tyOK88
  · exact tyOK89
  · exact tyOK90
  · exact tyOK91
  · exact tyOK92
  · exact tyOK93
  · exact tyOK94
  · exact tyOK95
  · exact tyOK96
  · exact tyOK97
  · exact tyOK98
  · exact tyOK99
  · exact tyOK100
  · exact tyOK101
  · exact tyOK102
  · exact tyOK103
  · exact tyOK104
  · exact tyOK105
  · exact tyOK106
  · exact tyOK107
  · exact tyOK108
  · exact tyOK109
  · exact tyOK110
  · exact tyOK111
  · exact tyOK112
  · exact tyOK113
  · exact tyOK114
  · exact tyOK115
  · exact tyOK116
  · exact tyOK117
  · exact tyOK118
  · exact tyOK119
  · exact tyOK120
  · exact tyOK121
  · exact tyOK122
  · exact tyOK123
  · exact tyOK124
  · exact tyOK125
  · exact tyOK126
  · exact tyOK127
  · exact tyOK128
  · exact tyOK129
  · exact tyOK130
  · exact tyOK131
  · exact tyOK132
  · exact tyOK134
  · exact tyOK135
  · exact tyOK136
  · exact tyOK137
  · exact tyOK138
  · exact tyOK139
  · exact tyOK140
  · exact tyOK141
  · exact tyOK142
  · exact tyOK143
  · exact tyOK144
  · exact tyOK145
  · exact tyOK146
  · exact ⟨trivial,trivial⟩
set_option maxRecDepth 100000 in
theorem tyOKc2 : ∀ n,TyOK Try.prog n (tyT2 n):=by
  intro n
  unfold tyT2
  split
  · exact tyOK147
  · exact tyOK148
  · exact tyOK149
  · exact tyOK150
  · exact tyOK151
  · exact tyOK152
  · exact tyOK153
  · exact tyOK154
  · exact tyOK155
  · exact tyOK156
  · exact tyOK157
  · exact tyOK158
  · exact tyOK159
  · exact tyOK160
  · exact tyOK161
  · exact tyOK162
  · exact tyOK163
  · exact tyOK164
  · exact tyOK165
  · exact tyOK166
  · exact tyOK167
  · exact tyOK168
  · exact tyOK169
  · exact tyOK170
  · exact tyOK171
  · exact tyOK172
  · exact tyOK173
  · exact tyOK174
  · exact tyOK175
  · exact tyOK176
  · exact tyOK177
  · exact tyOK178
  · exact tyOK179
  · exact tyOK180
  · exact tyOK181
  · exact tyOK182
  · exact tyOK183
  · exact tyOK185
  · exact tyOK186
  · exact tyOK187
  · exact tyOK189
  · exact tyOK190
  · exact tyOK191
  · exact tyOK192
  · exact tyOK193
  · exact tyOK194
  · exact tyOK195
  · exact tyOK196
  · exact tyOK197
  · exact tyOK198
  · exact tyOK199
  · exact tyOK200
  · exact tyOK201
  · exact tyOK202
  · exact tyOK203
  · exact tyOK204
  · exact tyOK205
  · exact tyOK206
  · exact tyOK208
  · exact tyOK209
  · exact tyOK210
  · exact tyOK212
  · exact tyOK213
  · exact tyOK214
  · exact tyOK215
  · exact tyOK216
  · exact tyOK217
  · exact tyOK218
  · exact tyOK219
  · exact tyOK220
  · exact ⟨trivial,trivial⟩
set_option maxRecDepth 100000 in
theorem tyOKc3 : ∀ n,TyOK Try.prog n (tyT3 n):=by
  intro n
  unfold tyT3
  split
  · exact tyOK221
  · exact tyOK223
  · exact tyOK224
  · exact tyOK225
  · exact tyOK226
  · exact tyOK228
  · exact tyOK229
  · exact tyOK230
  · exact tyOK231
  · exact tyOK232
  · exact tyOK233
  · exact tyOK234
  · exact tyOK235
  · exact tyOK236
  · exact tyOK237
  · exact tyOK238
  · exact tyOK239
  · exact tyOK240
  · exact ⟨trivial,trivial⟩
theorem tyOK (n : Nat) : TyOK Try.prog n (tyT n):=by
  unfold tyT
  split
  · exact tyOKc0 n
  split
  · exact tyOKc1 n
  split
  · exact tyOKc2 n
  exact tyOKc3 n
def TT : Tab Try.prog:=⟨tyT,tyOK⟩
theorem TT_1 : TT.T 1 = ⟨Ty.func,1,8,none⟩:=rfl
theorem TT_2 : TT.T 2 = ⟨Ty.int .i64,1,8,some [.int .i64 0]⟩:=rfl
theorem TT_3 : TT.T 3 = ⟨Ty.int .i64,1,8,some [.int .i64 0]⟩:=rfl
theorem TT_4 : TT.T 4 = ⟨Ty.bool,1,1,some [.bool false]⟩:=rfl
theorem TT_5 : TT.T 5 = ⟨Ty.int .u8,1,1,some [.int .u8 0]⟩:=rfl
theorem TT_6 : TT.T 6 = ⟨Ty.int .u8,1,1,some [.int .u8 0]⟩:=rfl
theorem TT_7 : TT.T 7 = ⟨Ty.strct [(0,2),(1,3),(2,4),(3,6)],4,24,some [.int .i64 0,.int .i64 0,.bool false,.int .u8 0]⟩:=rfl
theorem TT_8 : TT.T 8 = ⟨Ty.strct [(0,2),(1,3),(2,4),(3,6)],4,24,some [.int .i64 0,.int .i64 0,.bool false,.int .u8 0]⟩:=rfl
theorem TT_9 : TT.T 9 = ⟨Ty.str,1,16,some [.str []]⟩:=rfl
theorem TT_10 : TT.T 10 = ⟨Ty.str,1,16,some [.str []]⟩:=rfl
theorem TT_11 : TT.T 11 = ⟨Ty.str,1,16,some [.str []]⟩:=rfl
theorem TT_12 : TT.T 12 = ⟨Ty.int .u64,1,8,some [.int .u64 0]⟩:=rfl
theorem TT_13 : TT.T 13 = ⟨Ty.strct [(0,9),(1,12)],2,24,some [.str [],.int .u64 0]⟩:=rfl
theorem TT_14 : TT.T 14 = ⟨Ty.strct [(0,9),(1,12)],2,24,some [.str [],.int .u64 0]⟩:=rfl
theorem TT_15 : TT.T 15 = ⟨Ty.ptr,1,8,none⟩:=rfl
theorem TT_16 : TT.T 16 = ⟨Ty.ptr,1,8,none⟩:=rfl
theorem TT_17 : TT.T 17 = ⟨Ty.ptr,1,8,none⟩:=rfl
theorem TT_18 : TT.T 18 = ⟨Ty.strct [(0,17)],1,8,none⟩:=rfl
theorem TT_19 : TT.T 19 = ⟨Ty.strct [(0,17)],1,8,none⟩:=rfl
theorem TT_20 : TT.T 20 = ⟨Ty.iface,1,16,none⟩:=rfl
theorem TT_21 : TT.T 21 = ⟨Ty.int .i32,1,4,some [.int .i32 0]⟩:=rfl
theorem TT_22 : TT.T 22 = ⟨Ty.slice 5,1,24,some [.sl 1 [] .full]⟩:=rfl
theorem TT_23 : TT.T 23 = ⟨Ty.slice 90,1,24,some [.sl 2 [] .full]⟩:=rfl
theorem TT_25 : TT.T 25 = ⟨Ty.func,1,8,none⟩:=rfl
theorem TT_27 : TT.T 27 = ⟨Ty.func,1,8,none⟩:=rfl
theorem TT_28 : TT.T 28 = ⟨Ty.func,1,8,none⟩:=rfl
theorem TT_29 : TT.T 29 = ⟨Ty.func,1,8,none⟩:=rfl
theorem TT_30 : TT.T 30 = ⟨Ty.func,1,8,none⟩:=rfl
theorem TT_31 : TT.T 31 = ⟨Ty.func,1,8,none⟩:=rfl
theorem TT_32 : TT.T 32 = ⟨Ty.func,1,8,none⟩:=rfl
theorem TT_33 : TT.T 33 = ⟨Ty.slice 104,1,24,some [.sl 2 [] .full]⟩:=rfl
theorem TT_34 : TT.T 34 = ⟨Ty.func,1,8,none⟩:=rfl
theorem TT_35 : TT.T 35 = ⟨Ty.func,1,8,none⟩:=rfl
theorem TT_36 : TT.T 36 = ⟨Ty.func,1,8,none⟩:=rfl
theorem TT_37 : TT.T 37 = ⟨Ty.func,1,8,none⟩:=rfl
theorem TT_38 : TT.T 38 = ⟨Ty.slice 114,1,24,some [.sl 9 [] .full]⟩:=rfl
theorem TT_39 : TT.T 39 = ⟨Ty.strct [(0,23),(1,38)],2,48,some [.sl 2 [] .full,.sl 9 [] .full]⟩:=rfl
theorem TT_40 : TT.T 40 = ⟨Ty.strct [(0,23),(1,38)],2,48,some [.sl 2 [] .full,.sl 9 [] .full]⟩:=rfl
theorem TT_41 : TT.T 41 = ⟨Ty.func,1,8,none⟩:=rfl
theorem TT_42 : TT.T 42 = ⟨Ty.func,1,8,none⟩:=rfl
theorem TT_43 : TT.T 43 = ⟨Ty.func,1,8,none⟩:=rfl
theorem TT_44 : TT.T 44 = ⟨Ty.slice 161,1,24,some [.sl 9 [] .full]⟩:=rfl
theorem TT_45 : TT.T 45 = ⟨Ty.strct [(0,33),(1,44)],2,48,some [.sl 2 [] .full,.sl 9 [] .full]⟩:=rfl
theorem TT_46 : TT.T 46 = ⟨Ty.strct [(0,33),(1,44)],2,48,some [.sl 2 [] .full,.sl 9 [] .full]⟩:=rfl
theorem TT_47 : TT.T 47 = ⟨Ty.func,1,8,none⟩:=rfl
theorem TT_48 : TT.T 48 = ⟨Ty.func,1,8,none⟩:=rfl
theorem TT_49 : TT.T 49 = ⟨Ty.func,1,8,none⟩:=rfl
theorem TT_50 : TT.T 50 = ⟨Ty.func,1,8,none⟩:=rfl
theorem TT_51 : TT.T 51 = ⟨Ty.slice 165,1,24,some [.sl 2 [] .full]⟩:=rfl
theorem TT_52 : TT.T 52 = ⟨Ty.strct [(0,51),(1,51)],2,48,some [.sl 2 [] .full,.sl 2 [] .full]⟩:=rfl
theorem TT_53 : TT.T 53 = ⟨Ty.strct [(0,51),(1,51)],2,48,some [.sl 2 [] .full,.sl 2 [] .full]⟩:=rfl
theorem TT_54 : TT.T 54 = ⟨Ty.slice 56,1,24,some [.sl 4 [] .full]⟩:=rfl
theorem TT_55 : TT.T 55 = ⟨Ty.strct [(0,3),(1,3),(2,9),(3,54)],4,56,some [.int .i64 0,.int .i64 0,.str [],.sl 4 [] .full]⟩:=rfl
theorem TT_56 : TT.T 56 = ⟨Ty.strct [(0,3),(1,3),(2,9),(3,54)],4,56,some [.int .i64 0,.int .i64 0,.str [],.sl 4 [] .full]⟩:=rfl
theorem TT_58 : TT.T 58 = ⟨Ty.func,1,8,none⟩:=rfl
theorem TT_60 : TT.T 60 = ⟨Ty.func,1,8,none⟩:=rfl
theorem TT_61 : TT.T 61 = ⟨Ty.func,1,8,none⟩:=rfl
theorem TT_62 : TT.T 62 = ⟨Ty.slice 147,1,24,some [.sl 3 [] .full]⟩:=rfl
theorem TT_63 : TT.T 63 = ⟨Ty.strct [(0,3),(1,3),(2,3),(3,62)],4,48,some [.int .i64 0,.int .i64 0,.int .i64 0,.sl 3 [] .full]⟩:=rfl
theorem TT_64 : TT.T 64 = ⟨Ty.strct [(0,3),(1,3),(2,3),(3,62)],4,48,some [.int .i64 0,.int .i64 0,.int .i64 0,.sl 3 [] .full]⟩:=rfl
theorem TT_66 : TT.T 66 = ⟨Ty.func,1,8,none⟩:=rfl
theorem TT_67 : TT.T 67 = ⟨Ty.func,1,8,none⟩:=rfl
theorem TT_68 : TT.T 68 = ⟨Ty.func,1,8,none⟩:=rfl
theorem TT_69 : TT.T 69 = ⟨Ty.slice 64,1,24,some [.sl 4 [] .full]⟩:=rfl
theorem TT_70 : TT.T 70 = ⟨Ty.func,1,8,none⟩:=rfl
theorem TT_71 : TT.T 71 = ⟨Ty.func,1,8,none⟩:=rfl
theorem TT_72 : TT.T 72 = ⟨Ty.slice 179,1,24,some [.sl 2 [] .full]⟩:=rfl
theorem TT_73 : TT.T 73 = ⟨Ty.strct [(0,72),(1,72)],2,48,some [.sl 2 [] .full,.sl 2 [] .full]⟩:=rfl
theorem TT_74 : TT.T 74 = ⟨Ty.strct [(0,72),(1,72)],2,48,some [.sl 2 [] .full,.sl 2 [] .full]⟩:=rfl
theorem TT_75 : TT.T 75 = ⟨Ty.slice 77,1,24,some [.sl 4 [] .full]⟩:=rfl
theorem TT_76 : TT.T 76 = ⟨Ty.strct [(0,3),(1,3),(2,9),(3,75)],4,56,some [.int .i64 0,.int .i64 0,.str [],.sl 4 [] .full]⟩:=rfl
theorem TT_77 : TT.T 77 = ⟨Ty.strct [(0,3),(1,3),(2,9),(3,75)],4,56,some [.int .i64 0,.int .i64 0,.str [],.sl 4 [] .full]⟩:=rfl
theorem TT_78 : TT.T 78 = ⟨Ty.func,1,8,none⟩:=rfl
theorem TT_79 : TT.T 79 = ⟨Ty.func,1,8,none⟩:=rfl
theorem TT_80 : TT.T 80 = ⟨Ty.func,1,8,none⟩:=rfl
theorem TT_81 : TT.T 81 = ⟨Ty.func,1,8,none⟩:=rfl
theorem TT_82 : TT.T 82 = ⟨Ty.func,1,8,none⟩:=rfl
theorem TT_83 : TT.T 83 = ⟨Ty.func,1,8,none⟩:=rfl
theorem TT_84 : TT.T 84 = ⟨Ty.func,1,8,none⟩:=rfl
theorem TT_85 : TT.T 85 = ⟨Ty.func,1,8,none⟩:=rfl
theorem TT_86 : TT.T 86 = ⟨Ty.func,1,8,none⟩:=rfl
theorem TT_87 : TT.T 87 = ⟨Ty.func,1,8,none⟩:=rfl
theorem TT_88 : TT.T 88 = ⟨Ty.slice 3,1,24,some [.sl 1 [] .full]⟩:=rfl
theorem TT_89 : TT.T 89 = ⟨Ty.strct [(0,88),(1,62)],2,48,some [.sl 1 [] .full,.sl 3 [] .full]⟩:=rfl
theorem TT_90 : TT.T 90 = ⟨Ty.strct [(0,88),(1,62)],2,48,some [.sl 1 [] .full,.sl 3 [] .full]⟩:=rfl
theorem TT_91 : TT.T 91 = ⟨Ty.func,1,8,none⟩:=rfl
theorem TT_92 : TT.T 92 = ⟨Ty.func,1,8,none⟩:=rfl
theorem TT_93 : TT.T 93 = ⟨Ty.func,1,8,none⟩:=rfl
theorem TT_94 : TT.T 94 = ⟨Ty.func,1,8,none⟩:=rfl
theorem TT_95 : TT.T 95 = ⟨Ty.func,1,8,none⟩:=rfl
theorem TT_96 : TT.T 96 = ⟨Ty.func,1,8,none⟩:=rfl
theorem TT_97 : TT.T 97 = ⟨Ty.func,1,8,none⟩:=rfl
theorem TT_98 : TT.T 98 = ⟨Ty.func,1,8,none⟩:=rfl
theorem TT_99 : TT.T 99 = ⟨Ty.func,1,8,none⟩:=rfl
theorem TT_100 : TT.T 100 = ⟨Ty.func,1,8,none⟩:=rfl
theorem TT_101 : TT.T 101 = ⟨Ty.func,1,8,none⟩:=rfl
theorem TT_102 : TT.T 102 = ⟨Ty.slice 197,1,24,some [.sl 3 [] .full]⟩:=rfl
theorem TT_103 : TT.T 103 = ⟨Ty.strct [(0,88),(1,102)],2,48,some [.sl 1 [] .full,.sl 3 [] .full]⟩:=rfl
theorem TT_104 : TT.T 104 = ⟨Ty.strct [(0,88),(1,102)],2,48,some [.sl 1 [] .full,.sl 3 [] .full]⟩:=rfl
theorem TT_105 : TT.T 105 = ⟨Ty.func,1,8,none⟩:=rfl
theorem TT_106 : TT.T 106 = ⟨Ty.func,1,8,none⟩:=rfl
theorem TT_107 : TT.T 107 = ⟨Ty.func,1,8,none⟩:=rfl
theorem TT_108 : TT.T 108 = ⟨Ty.func,1,8,none⟩:=rfl
theorem TT_109 : TT.T 109 = ⟨Ty.func,1,8,none⟩:=rfl
theorem TT_110 : TT.T 110 = ⟨Ty.ptr,1,8,none⟩:=rfl
theorem TT_111 : TT.T 111 = ⟨Ty.func,1,8,none⟩:=rfl
theorem TT_112 : TT.T 112 = ⟨Ty.map 9 4,1,8,none⟩:=rfl
theorem TT_113 : TT.T 113 = ⟨Ty.strct [(0,9),(1,4),(2,3),(3,3),(4,3),(5,56)],9,104,some [.str [],.bool false,.int .i64 0,.int .i64 0,.int .i64 0,.int .i64 0,.int .i64 0,.str [],.sl 4 [] .full]⟩:=rfl
theorem TT_114 : TT.T 114 = ⟨Ty.strct [(0,9),(1,4),(2,3),(3,3),(4,3),(5,56)],9,104,some [.str [],.bool false,.int .i64 0,.int .i64 0,.int .i64 0,.int .i64 0,.int .i64 0,.str [],.sl 4 [] .full]⟩:=rfl
theorem TT_115 : TT.T 115 = ⟨Ty.func,1,8,none⟩:=rfl
theorem TT_116 : TT.T 116 = ⟨Ty.func,1,8,none⟩:=rfl
theorem TT_117 : TT.T 117 = ⟨Ty.func,1,8,none⟩:=rfl
theorem TT_118 : TT.T 118 = ⟨Ty.func,1,8,none⟩:=rfl
theorem TT_119 : TT.T 119 = ⟨Ty.func,1,8,none⟩:=rfl
theorem TT_120 : TT.T 120 = ⟨Ty.func,1,8,none⟩:=rfl
theorem TT_121 : TT.T 121 = ⟨Ty.func,1,8,none⟩:=rfl
theorem TT_122 : TT.T 122 = ⟨Ty.func,1,8,none⟩:=rfl
theorem TT_123 : TT.T 123 = ⟨Ty.func,1,8,none⟩:=rfl
theorem TT_124 : TT.T 124 = ⟨Ty.func,1,8,none⟩:=rfl
theorem TT_125 : TT.T 125 = ⟨Ty.func,1,8,none⟩:=rfl
theorem TT_126 : TT.T 126 = ⟨Ty.func,1,8,none⟩:=rfl
theorem TT_127 : TT.T 127 = ⟨Ty.func,1,8,none⟩:=rfl
theorem TT_128 : TT.T 128 = ⟨Ty.func,1,8,none⟩:=rfl
theorem TT_129 : TT.T 129 = ⟨Ty.func,1,8,none⟩:=rfl
theorem TT_130 : TT.T 130 = ⟨Ty.func,1,8,none⟩:=rfl
theorem TT_131 : TT.T 131 = ⟨Ty.strct [(0,3),(1,3)],2,16,some [.int .i64 0,.int .i64 0]⟩:=rfl
theorem TT_132 : TT.T 132 = ⟨Ty.strct [(0,3),(1,3)],2,16,some [.int .i64 0,.int .i64 0]⟩:=rfl
theorem TT_134 : TT.T 134 = ⟨Ty.func,1,8,none⟩:=rfl
theorem TT_135 : TT.T 135 = ⟨Ty.func,1,8,none⟩:=rfl
theorem TT_136 : TT.T 136 = ⟨Ty.func,1,8,none⟩:=rfl
theorem TT_137 : TT.T 137 = ⟨Ty.func,1,8,none⟩:=rfl
theorem TT_138 : TT.T 138 = ⟨Ty.func,1,8,none⟩:=rfl
theorem TT_139 : TT.T 139 = ⟨Ty.func,1,8,none⟩:=rfl
theorem TT_140 : TT.T 140 = ⟨Ty.func,1,8,none⟩:=rfl
theorem TT_141 : TT.T 141 = ⟨Ty.func,1,8,none⟩:=rfl
theorem TT_142 : TT.T 142 = ⟨Ty.func,1,8,none⟩:=rfl
theorem TT_143 : TT.T 143 = ⟨Ty.func,1,8,none⟩:=rfl
theorem TT_144 : TT.T 144 = ⟨Ty.func,1,8,none⟩:=rfl
theorem TT_145 : TT.T 145 = ⟨Ty.func,1,8,none⟩:=rfl
theorem TT_146 : TT.T 146 = ⟨Ty.strct [(0,9),(1,132)],3,32,some [.str [],.int .i64 0,.int .i64 0]⟩:=rfl
theorem TT_147 : TT.T 147 = ⟨Ty.strct [(0,9),(1,132)],3,32,some [.str [],.int .i64 0,.int .i64 0]⟩:=rfl
theorem TT_148 : TT.T 148 = ⟨Ty.func,1,8,none⟩:=rfl
theorem TT_149 : TT.T 149 = ⟨Ty.func,1,8,none⟩:=rfl
theorem TT_150 : TT.T 150 = ⟨Ty.func,1,8,none⟩:=rfl
theorem TT_151 : TT.T 151 = ⟨Ty.int .u64,1,8,some [.int .u64 0]⟩:=rfl
theorem TT_152 : TT.T 152 = ⟨Ty.func,1,8,none⟩:=rfl
theorem TT_153 : TT.T 153 = ⟨Ty.func,1,8,none⟩:=rfl
theorem TT_154 : TT.T 154 = ⟨Ty.func,1,8,none⟩:=rfl
theorem TT_155 : TT.T 155 = ⟨Ty.func,1,8,none⟩:=rfl
theorem TT_156 : TT.T 156 = ⟨Ty.func,1,8,none⟩:=rfl
theorem TT_157 : TT.T 157 = ⟨Ty.strct [(0,22),(1,3)],2,32,some [.sl 1 [] .full,.int .i64 0]⟩:=rfl
theorem TT_158 : TT.T 158 = ⟨Ty.strct [(0,22),(1,3)],2,32,some [.sl 1 [] .full,.int .i64 0]⟩:=rfl
theorem TT_159 : TT.T 159 = ⟨Ty.func,1,8,none⟩:=rfl
theorem TT_160 : TT.T 160 = ⟨Ty.strct [(0,9),(1,4),(2,3),(3,3),(4,3),(5,77)],9,104,some [.str [],.bool false,.int .i64 0,.int .i64 0,.int .i64 0,.int .i64 0,.int .i64 0,.str [],.sl 4 [] .full]⟩:=rfl
theorem TT_161 : TT.T 161 = ⟨Ty.strct [(0,9),(1,4),(2,3),(3,3),(4,3),(5,77)],9,104,some [.str [],.bool false,.int .i64 0,.int .i64 0,.int .i64 0,.int .i64 0,.int .i64 0,.str [],.sl 4 [] .full]⟩:=rfl
theorem TT_162 : TT.T 162 = ⟨Ty.func,1,8,none⟩:=rfl
theorem TT_163 : TT.T 163 = ⟨Ty.func,1,8,none⟩:=rfl
theorem TT_164 : TT.T 164 = ⟨Ty.strct [(0,9),(1,3)],2,24,some [.str [],.int .i64 0]⟩:=rfl
theorem TT_165 : TT.T 165 = ⟨Ty.strct [(0,9),(1,3)],2,24,some [.str [],.int .i64 0]⟩:=rfl
theorem TT_166 : TT.T 166 = ⟨Ty.func,1,8,none⟩:=rfl
theorem TT_167 : TT.T 167 = ⟨Ty.func,1,8,none⟩:=rfl
theorem TT_168 : TT.T 168 = ⟨Ty.func,1,8,none⟩:=rfl
theorem TT_169 : TT.T 169 = ⟨Ty.func,1,8,none⟩:=rfl
theorem TT_170 : TT.T 170 = ⟨Ty.func,1,8,none⟩:=rfl
theorem TT_171 : TT.T 171 = ⟨Ty.func,1,8,none⟩:=rfl
theorem TT_172 : TT.T 172 = ⟨Ty.func,1,8,none⟩:=rfl
theorem TT_173 : TT.T 173 = ⟨Ty.slice 51,1,24,some [.sl 1 [] .full]⟩:=rfl
theorem TT_174 : TT.T 174 = ⟨Ty.func,1,8,none⟩:=rfl
theorem TT_175 : TT.T 175 = ⟨Ty.strct [(0,23),(1,64)],5,72,some [.sl 2 [] .full,.int .i64 0,.int .i64 0,.int .i64 0,.sl 3 [] .full]⟩:=rfl
theorem TT_176 : TT.T 176 = ⟨Ty.strct [(0,23),(1,64)],5,72,some [.sl 2 [] .full,.int .i64 0,.int .i64 0,.int .i64 0,.sl 3 [] .full]⟩:=rfl
theorem TT_177 : TT.T 177 = ⟨Ty.func,1,8,none⟩:=rfl
theorem TT_178 : TT.T 178 = ⟨Ty.func,1,8,none⟩:=rfl
theorem TT_179 : TT.T 179 = ⟨Ty.strct [(0,9),(1,3)],2,24,some [.str [],.int .i64 0]⟩:=rfl
theorem TT_180 : TT.T 180 = ⟨Ty.func,1,8,none⟩:=rfl
theorem TT_181 : TT.T 181 = ⟨Ty.func,1,8,none⟩:=rfl
theorem TT_182 : TT.T 182 = ⟨Ty.func,1,8,none⟩:=rfl
theorem TT_183 : TT.T 183 = ⟨Ty.int .i64,1,8,some [.int .i64 0]⟩:=rfl
theorem TT_185 : TT.T 185 = ⟨Ty.func,1,8,none⟩:=rfl
theorem TT_186 : TT.T 186 = ⟨Ty.func,1,8,none⟩:=rfl
theorem TT_187 : TT.T 187 = ⟨Ty.func,1,8,none⟩:=rfl
theorem TT_189 : TT.T 189 = ⟨Ty.func,1,8,none⟩:=rfl
theorem TT_190 : TT.T 190 = ⟨Ty.func,1,8,none⟩:=rfl
theorem TT_191 : TT.T 191 = ⟨Ty.int .u32,1,4,some [.int .u32 0]⟩:=rfl
theorem TT_192 : TT.T 192 = ⟨Ty.func,1,8,none⟩:=rfl
theorem TT_193 : TT.T 193 = ⟨Ty.int .u64,1,8,some [.int .u64 0]⟩:=rfl
theorem TT_194 : TT.T 194 = ⟨Ty.func,1,8,none⟩:=rfl
theorem TT_195 : TT.T 195 = ⟨Ty.strct [(0,3),(1,3)],2,16,some [.int .i64 0,.int .i64 0]⟩:=rfl
theorem TT_196 : TT.T 196 = ⟨Ty.strct [(0,9),(1,195)],3,32,some [.str [],.int .i64 0,.int .i64 0]⟩:=rfl
theorem TT_197 : TT.T 197 = ⟨Ty.strct [(0,9),(1,195)],3,32,some [.str [],.int .i64 0,.int .i64 0]⟩:=rfl
theorem TT_198 : TT.T 198 = ⟨Ty.func,1,8,none⟩:=rfl
theorem TT_199 : TT.T 199 = ⟨Ty.func,1,8,none⟩:=rfl
theorem TT_200 : TT.T 200 = ⟨Ty.slice 9,1,24,some [.sl 1 [] .full]⟩:=rfl
theorem TT_201 : TT.T 201 = ⟨Ty.func,1,8,none⟩:=rfl
theorem TT_202 : TT.T 202 = ⟨Ty.func,1,8,none⟩:=rfl
theorem TT_203 : TT.T 203 = ⟨Ty.func,1,8,none⟩:=rfl
theorem TT_204 : TT.T 204 = ⟨Ty.func,1,8,none⟩:=rfl
theorem TT_205 : TT.T 205 = ⟨Ty.func,1,8,none⟩:=rfl
theorem TT_206 : TT.T 206 = ⟨Ty.slice 132,1,24,some [.sl 2 [] .full]⟩:=rfl
theorem TT_208 : TT.T 208 = ⟨Ty.func,1,8,none⟩:=rfl
theorem TT_209 : TT.T 209 = ⟨Ty.func,1,8,none⟩:=rfl
theorem TT_210 : TT.T 210 = ⟨Ty.func,1,8,none⟩:=rfl
theorem TT_212 : TT.T 212 = ⟨Ty.func,1,8,none⟩:=rfl
theorem TT_213 : TT.T 213 = ⟨Ty.int .u64,1,8,some [.int .u64 0]⟩:=rfl
theorem TT_214 : TT.T 214 = ⟨Ty.func,1,8,none⟩:=rfl
theorem TT_215 : TT.T 215 = ⟨Ty.func,1,8,none⟩:=rfl
theorem TT_216 : TT.T 216 = ⟨Ty.func,1,8,none⟩:=rfl
theorem TT_217 : TT.T 217 = ⟨Ty.ptr,1,8,none⟩:=rfl
theorem TT_218 : TT.T 218 = ⟨Ty.func,1,8,none⟩:=rfl
theorem TT_219 : TT.T 219 = ⟨Ty.func,1,8,none⟩:=rfl
theorem TT_220 : TT.T 220 = ⟨Ty.func,1,8,none⟩:=rfl
theorem TT_221 : TT.T 221 = ⟨Ty.ptr,1,8,none⟩:=rfl
theorem TT_223 : TT.T 223 = ⟨Ty.func,1,8,none⟩:=rfl
theorem TT_224 : TT.T 224 = ⟨Ty.func,1,8,none⟩:=rfl
theorem TT_225 : TT.T 225 = ⟨Ty.strct [(0,17),(1,17),(2,17),(3,9)],4,40,none⟩:=rfl
theorem TT_226 : TT.T 226 = ⟨Ty.strct [(0,17),(1,17),(2,17),(3,9)],4,40,none⟩:=rfl
theorem TT_228 : TT.T 228 = ⟨Ty.strct [(0,227)],0,0,none⟩:=rfl
theorem TT_229 : TT.T 229 = ⟨Ty.strct [(0,227)],0,0,none⟩:=rfl
theorem TT_230 : TT.T 230 = ⟨Ty.func,1,8,none⟩:=rfl
theorem TT_231 : TT.T 231 = ⟨Ty.int .u8,1,1,some [.int .u8 0]⟩:=rfl
theorem TT_232 : TT.T 232 = ⟨Ty.int .u8,1,1,some [.int .u8 0]⟩:=rfl
theorem TT_233 : TT.T 233 = ⟨Ty.func,1,8,none⟩:=rfl
theorem TT_234 : TT.T 234 = ⟨Ty.ptr,1,8,none⟩:=rfl
theorem TT_235 : TT.T 235 = ⟨Ty.int .i32,1,4,some [.int .i32 0]⟩:=rfl
theorem TT_236 : TT.T 236 = ⟨Ty.int .i32,1,4,some [.int .i32 0]⟩:=rfl
theorem TT_237 : TT.T 237 = ⟨Ty.strct [(0,12),(1,12),(2,191),(3,231),(4,5),(5,5),(6,232),(7,233),(8,234),(9,235),(10,236)],11,48,none⟩:=rfl
theorem TT_238 : TT.T 238 = ⟨Ty.strct [(0,12),(1,12),(2,191),(3,231),(4,5),(5,5),(6,232),(7,233),(8,234),(9,235),(10,236)],11,48,none⟩:=rfl
theorem TT_239 : TT.T 239 = ⟨Ty.func,1,8,none⟩:=rfl
theorem TT_240 : TT.T 240 = ⟨Ty.func,1,8,none⟩:=rfl
attribute [go_sem] TT_1 TT_2 TT_3 TT_4 TT_5 TT_6 TT_7 TT_8 TT_9 TT_10 TT_11 TT_12 TT_13 TT_14 TT_15 TT_16 TT_17 TT_18 TT_19 TT_20 TT_21 TT_22 TT_23 TT_25 TT_27 TT_28 TT_29 TT_30 TT_31 TT_32 TT_33 TT_34 TT_35 TT_36 TT_37 TT_38 TT_39 TT_40 TT_41 TT_42 TT_43 TT_44 TT_45 TT_46 TT_47 TT_48 TT_49 TT_50 TT_51 TT_52 TT_53 TT_54 TT_55 TT_56 TT_58 TT_60 TT_61 TT_62 TT_63 TT_64 TT_66 TT_67 TT_68 TT_69 TT_70 TT_71 TT_72 TT_73 TT_74 TT_75 TT_76 TT_77 TT_78 TT_79 TT_80 TT_81 TT_82 TT_83 TT_84 TT_85 TT_86 TT_87 TT_88 TT_89 TT_90 TT_91 TT_92 TT_93 TT_94 TT_95 TT_96 TT_97 TT_98 TT_99 TT_100 TT_101 TT_102 TT_103 TT_104 TT_105 TT_106 TT_107 TT_108 TT_109 TT_110 TT_111 TT_112 TT_113 TT_114 TT_115 TT_116 TT_117 TT_118 TT_119 TT_120 TT_121 TT_122 TT_123 TT_124 TT_125 TT_126 TT_127 TT_128 TT_129 TT_130 TT_131 TT_132 TT_134 TT_135 TT_136 TT_137 TT_138 TT_139 TT_140 TT_141 TT_142 TT_143 TT_144 TT_145 TT_146 TT_147 TT_148 TT_149 TT_150 TT_151 TT_152 TT_153 TT_154 TT_155 TT_156 TT_157 TT_158 TT_159 TT_160 TT_161 TT_162 TT_163 TT_164 TT_165 TT_166 TT_167 TT_168 TT_169 TT_170 TT_171 TT_172 TT_173 TT_174 TT_175 TT_176 TT_177 TT_178 TT_179 TT_180 TT_181 TT_182 TT_183 TT_185 TT_186 TT_187 TT_189 TT_190 TT_191 TT_192 TT_193 TT_194 TT_195 TT_196 TT_197 TT_198 TT_199 TT_200 TT_201 TT_202 TT_203 TT_204 TT_205 TT_206 TT_208 TT_209 TT_210 TT_212 TT_213 TT_214 TT_215 TT_216 TT_217 TT_218 TT_219 TT_220 TT_221 TT_223 TT_224 TT_225 TT_226 TT_228 TT_229 TT_230 TT_231 TT_232 TT_233 TT_234 TT_235 TT_236 TT_237 TT_238 TT_239 TT_240
theorem MX : Try.prog.follows .mixedOrders = true:=by kernel_rfl
end Go.Proofs.Ytdfbaedkcfhdfaa
