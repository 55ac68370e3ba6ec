import Derived.Test.YtfehmaadljngiaaProg
import Derived.Test.YtfehmaadljngiaaCoreD
namespace Go.Proofs.Ytfehmaadljngiaa
open Go Go.AL
set_option maxRecDepth 100000
set_option maxRecDepth 100000 in
def tyT : Nat → TyI
  | 1=>⟨Ty.func,1,8,none⟩
  | 2=>⟨Ty.int .i64,1,8,some [.int .i64 0]⟩
  | 3=>⟨Ty.int .i64,1,8,some [.int .i64 0]⟩
  | 4=>⟨Ty.bool,1,1,some [.bool false]⟩
  | 5=>⟨Ty.int .u8,1,1,some [.int .u8 0]⟩
  | 6=>⟨Ty.int .u8,1,1,some [.int .u8 0]⟩
  | 7=>⟨Ty.strct [(0,2),(1,3),(2,4),(3,6)],4,24,some [.int .i64 0,.int .i64 0,.bool false,.int .u8 0]⟩
  | 8=>⟨Ty.strct [(0,2),(1,3),(2,4),(3,6)],4,24,some [.int .i64 0,.int .i64 0,.bool false,.int .u8 0]⟩
  | 9=>⟨Ty.str,1,16,some [.str []]⟩
  | 10=>⟨Ty.str,1,16,some [.str []]⟩
  | 11=>⟨Ty.str,1,16,some [.str []]⟩
  | 12=>⟨Ty.int .u64,1,8,some [.int .u64 0]⟩
  | 13=>⟨Ty.strct [(0,9),(1,12)],2,24,some [.str [],.int .u64 0]⟩
  | 14=>⟨Ty.strct [(0,9),(1,12)],2,24,some [.str [],.int .u64 0]⟩
  | 15=>⟨Ty.ptr,1,8,none⟩
  | 16=>⟨Ty.ptr,1,8,none⟩
  | 17=>⟨Ty.ptr,1,8,none⟩
  | 18=>⟨Ty.strct [(0,17)],1,8,none⟩
  | 19=>⟨Ty.strct [(0,17)],1,8,none⟩
  | 20=>⟨Ty.iface,1,16,none⟩
  | 21=>⟨Ty.int .i32,1,4,some [.int .i32 0]⟩
  | 22=>⟨Ty.slice 24,1,24,some [.sl 4 [] .full]⟩
  | 23=>⟨Ty.strct [(0,3),(1,3),(2,9),(3,22)],4,56,some [.int .i64 0,.int .i64 0,.str [],.sl 4 [] .full]⟩
  | 24=>⟨Ty.strct [(0,3),(1,3),(2,9),(3,22)],4,56,some [.int .i64 0,.int .i64 0,.str [],.sl 4 [] .full]⟩
  | 25=>⟨Ty.strct [(0,9),(1,4),(2,3),(3,3),(4,3),(5,24)],9,104,some [.str [],.bool false,.int .i64 0,.int .i64 0,.int .i64 0,.int .i64 0,.int .i64 0,.str [],.sl 4 [] .full]⟩
  | 26=>⟨Ty.strct [(0,9),(1,4),(2,3),(3,3),(4,3),(5,24)],9,104,some [.str [],.bool false,.int .i64 0,.int .i64 0,.int .i64 0,.int .i64 0,.int .i64 0,.str [],.sl 4 [] .full]⟩
  | 27=>⟨Ty.func,1,8,none⟩
  | 28=>⟨Ty.slice 30,1,24,some [.sl 4 [] .full]⟩
  | 29=>⟨Ty.strct [(0,3),(1,3),(2,9),(3,28)],4,56,some [.int .i64 0,.int .i64 0,.str [],.sl 4 [] .full]⟩
  | 30=>⟨Ty.strct [(0,3),(1,3),(2,9),(3,28)],4,56,some [.int .i64 0,.int .i64 0,.str [],.sl 4 [] .full]⟩
  | 31=>⟨Ty.strct [(0,9),(1,4),(2,3),(3,3),(4,3),(5,30)],9,104,some [.str [],.bool false,.int .i64 0,.int .i64 0,.int .i64 0,.int .i64 0,.int .i64 0,.str [],.sl 4 [] .full]⟩
  | 32=>⟨Ty.strct [(0,9),(1,4),(2,3),(3,3),(4,3),(5,30)],9,104,some [.str [],.bool false,.int .i64 0,.int .i64 0,.int .i64 0,.int .i64 0,.int .i64 0,.str [],.sl 4 [] .full]⟩
  | 34=>⟨Ty.func,1,8,none⟩
  | 35=>⟨Ty.func,1,8,none⟩
  | 36=>⟨Ty.func,1,8,none⟩
  | 37=>⟨Ty.func,1,8,none⟩
  | 38=>⟨Ty.func,1,8,none⟩
  | 39=>⟨Ty.func,1,8,none⟩
  | 40=>⟨Ty.func,1,8,none⟩
  | 41=>⟨Ty.func,1,8,none⟩
  | 42=>⟨Ty.func,1,8,none⟩
  | 43=>⟨Ty.func,1,8,none⟩
  | 44=>⟨Ty.func,1,8,none⟩
  | 45=>⟨Ty.func,1,8,none⟩
  | 46=>⟨Ty.func,1,8,none⟩
  | 47=>⟨Ty.func,1,8,none⟩
  | 48=>⟨Ty.func,1,8,none⟩
  | 49=>⟨Ty.func,1,8,none⟩
  | 50=>⟨Ty.func,1,8,none⟩
  | 51=>⟨Ty.func,1,8,none⟩
  | 52=>⟨Ty.func,1,8,none⟩
  | 53=>⟨Ty.func,1,8,none⟩
  | 54=>⟨Ty.func,1,8,none⟩
  | 55=>⟨Ty.func,1,8,none⟩
  | 56=>⟨Ty.func,1,8,none⟩
  | 57=>⟨Ty.func,1,8,none⟩
  | 58=>⟨Ty.func,1,8,none⟩
  | 59=>⟨Ty.func,1,8,none⟩
  | 61=>⟨Ty.func,1,8,none⟩
  | 62=>⟨Ty.func,1,8,none⟩
  | 63=>⟨Ty.slice 5,1,24,some [.sl 1 [] .full]⟩
  | 64=>⟨Ty.slice 3,1,24,some [.sl 1 [] .full]⟩
  | 65=>⟨Ty.func,1,8,none⟩
  | 66=>⟨Ty.strct [(0,17),(1,17),(2,17),(3,9)],4,40,none⟩
  | 67=>⟨Ty.strct [(0,17),(1,17),(2,17),(3,9)],4,40,none⟩
  | 69=>⟨Ty.strct [(0,68)],0,0,none⟩
  | 70=>⟨Ty.strct [(0,68)],0,0,none⟩
  | 71=>⟨Ty.func,1,8,none⟩
  | 72=>⟨Ty.int .u32,1,4,some [.int .u32 0]⟩
  | 73=>⟨Ty.int .u8,1,1,some [.int .u8 0]⟩
  | 74=>⟨Ty.int .u8,1,1,some [.int .u8 0]⟩
  | 75=>⟨Ty.func,1,8,none⟩
  | 76=>⟨Ty.ptr,1,8,none⟩
  | 77=>⟨Ty.int .i32,1,4,some [.int .i32 0]⟩
  | 78=>⟨Ty.int .i32,1,4,some [.int .i32 0]⟩
  | 79=>⟨Ty.strct [(0,12),(1,12),(2,72),(3,73),(4,5),(5,5),(6,74),(7,75),(8,76),(9,77),(10,78)],11,48,none⟩
  | 80=>⟨Ty.strct [(0,12),(1,12),(2,72),(3,73),(4,5),(5,5),(6,74),(7,75),(8,76),(9,77),(10,78)],11,48,none⟩
  | 81=>⟨Ty.func,1,8,none⟩
  | _=>⟨.other,0,0,none⟩
theorem tyOK1 : TyOK Try.prog 1 (tyT 1):=⟨⟨_,_,_,Try.underlying1⟩,⟨Try.t1,Try.type1,rfl,rfl,trivial⟩⟩
theorem tyOK2 : TyOK Try.prog 2 (tyT 2):=⟨Try.underlying2,⟨Try.t2,Try.type2,rfl,rfl,⟨rfl,rfl,rfl,fun h=>by first|rfl|cases h⟩⟩⟩
theorem tyOK3 : TyOK Try.prog 3 (tyT 3):=⟨Try.underlying3,⟨Try.t3,Try.type3,rfl,rfl,⟨rfl,rfl,rfl,fun h=>by first|rfl|cases h⟩⟩⟩
theorem tyOK4 : TyOK Try.prog 4 (tyT 4):=⟨Try.underlying4,⟨Try.t4,Try.type4,rfl,rfl,⟨rfl,rfl,rfl,fun h=>by first|rfl|cases h⟩⟩⟩
theorem tyOK5 : TyOK Try.prog 5 (tyT 5):=⟨Try.underlying5,⟨Try.t5,Try.type5,rfl,rfl,⟨rfl,rfl,rfl,fun h=>by first|rfl|cases h⟩⟩⟩
theorem tyOK6 : TyOK Try.prog 6 (tyT 6):=⟨Try.underlying6,⟨Try.t6,Try.type6,rfl,rfl,⟨rfl,rfl,rfl,fun h=>by first|rfl|cases h⟩⟩⟩
theorem tyOK7 : TyOK Try.prog 7 (tyT 7):=⟨⟨_,Try.underlying7,rfl⟩,⟨Try.t7,Try.type7,rfl,rfl,⟨rfl,rfl,rfl,fun h=>by first|rfl|cases h⟩⟩⟩
theorem tyOK8 : TyOK Try.prog 8 (tyT 8):=⟨⟨_,Try.underlying8,rfl⟩,⟨Try.t8,Try.type8,rfl,rfl,⟨rfl,rfl,rfl,fun h=>by first|rfl|cases h⟩⟩⟩
theorem tyOK9 : TyOK Try.prog 9 (tyT 9):=⟨Try.underlying9,⟨Try.t9,Try.type9,rfl,rfl,⟨rfl,rfl,rfl,fun h=>by first|rfl|cases h⟩⟩⟩
theorem tyOK10 : TyOK Try.prog 10 (tyT 10):=⟨Try.underlying10,⟨Try.t10,Try.type10,rfl,rfl,⟨rfl,rfl,rfl,fun h=>by first|rfl|cases h⟩⟩⟩
theorem tyOK11 : TyOK Try.prog 11 (tyT 11):=⟨Try.underlying11,⟨Try.t11,Try.type11,rfl,rfl,⟨rfl,rfl,rfl,fun h=>by first|rfl|cases h⟩⟩⟩
theorem tyOK12 : TyOK Try.prog 12 (tyT 12):=⟨Try.underlying12,⟨Try.t12,Try.type12,rfl,rfl,⟨rfl,rfl,rfl,fun h=>by first|rfl|cases h⟩⟩⟩
theorem tyOK13 : TyOK Try.prog 13 (tyT 13):=⟨⟨_,Try.underlying13,rfl⟩,⟨Try.t13,Try.type13,rfl,rfl,⟨rfl,rfl,rfl,fun h=>by first|rfl|cases h⟩⟩⟩
theorem tyOK14 : TyOK Try.prog 14 (tyT 14):=⟨⟨_,Try.underlying14,rfl⟩,⟨Try.t14,Try.type14,rfl,rfl,⟨rfl,rfl,rfl,fun h=>by first|rfl|cases h⟩⟩⟩
theorem tyOK15 : TyOK Try.prog 15 (tyT 15):=⟨⟨_,Try.underlying15⟩,⟨Try.t15,Try.type15,rfl,rfl,trivial⟩⟩
theorem tyOK16 : TyOK Try.prog 16 (tyT 16):=⟨⟨_,Try.underlying16⟩,⟨Try.t16,Try.type16,rfl,rfl,trivial⟩⟩
theorem tyOK17 : TyOK Try.prog 17 (tyT 17):=⟨⟨_,Try.underlying17⟩,⟨Try.t17,Try.type17,rfl,rfl,trivial⟩⟩
theorem tyOK18 : TyOK Try.prog 18 (tyT 18):=⟨⟨_,Try.underlying18,rfl⟩,⟨Try.t18,Try.type18,rfl,rfl,trivial⟩⟩
theorem tyOK19 : TyOK Try.prog 19 (tyT 19):=⟨⟨_,Try.underlying19,rfl⟩,⟨Try.t19,Try.type19,rfl,rfl,trivial⟩⟩
theorem tyOK20 : TyOK Try.prog 20 (tyT 20):=⟨⟨_,Try.underlying20⟩,⟨Try.t20,Try.type20,rfl,rfl,trivial⟩⟩
theorem tyOK21 : TyOK Try.prog 21 (tyT 21):=⟨Try.underlying21,⟨Try.t21,Try.type21,rfl,rfl,⟨rfl,rfl,rfl,fun h=>by first|rfl|cases h⟩⟩⟩
theorem tyOK22 : TyOK Try.prog 22 (tyT 22):=⟨Try.underlying22,⟨Try.t22,Try.type22,rfl,rfl,⟨rfl,rfl,rfl,fun h=>by first|rfl|cases h⟩⟩⟩
theorem tyOK23 : TyOK Try.prog 23 (tyT 23):=⟨⟨_,Try.underlying23,rfl⟩,⟨Try.t23,Try.type23,rfl,rfl,⟨rfl,rfl,rfl,fun h=>by first|rfl|cases h⟩⟩⟩
theorem tyOK24 : TyOK Try.prog 24 (tyT 24):=⟨⟨_,Try.underlying24,rfl⟩,⟨Try.t24,Try.type24,rfl,rfl,⟨rfl,rfl,rfl,fun h=>by first|rfl|cases h⟩⟩⟩
theorem tyOK25 : TyOK Try.prog 25 (tyT 25):=⟨⟨_,Try.underlying25,rfl⟩,⟨Try.t25,Try.type25,rfl,rfl,⟨rfl,rfl,rfl,fun h=>by first|rfl|cases h⟩⟩⟩
theorem tyOK26 : TyOK Try.prog 26 (tyT 26):=⟨⟨_,Try.underlying26,rfl⟩,⟨Try.t26,Try.type26,rfl,rfl,⟨rfl,rfl,rfl,fun h=>by first|rfl|cases h⟩⟩⟩
theorem tyOK27 : TyOK Try.prog 27 (tyT 27):=⟨⟨_,_,_,Try.underlying27⟩,⟨Try.t27,Try.type27,rfl,rfl,trivial⟩⟩
theorem tyOK28 : TyOK Try.prog 28 (tyT 28):=⟨Try.underlying28,⟨Try.t28,Try.type28,rfl,rfl,⟨rfl,rfl,rfl,fun h=>by first|rfl|cases h⟩⟩⟩
theorem tyOK29 : TyOK Try.prog 29 (tyT 29):=⟨⟨_,Try.underlying29,rfl⟩,⟨Try.t29,Try.type29,rfl,rfl,⟨rfl,rfl,rfl,fun h=>by first|rfl|cases h⟩⟩⟩
theorem tyOK30 : TyOK Try.prog 30 (tyT 30):=⟨⟨_,Try.underlying30,rfl⟩,⟨Try.t30,Try.type30,rfl,rfl,⟨rfl,rfl,rfl,fun h=>by first|rfl|cases h⟩⟩⟩
theorem tyOK31 : TyOK Try.prog 31 (tyT 31):=⟨⟨_,Try.underlying31,rfl⟩,⟨Try.t31,Try.type31,rfl,rfl,⟨rfl,rfl,rfl,fun h=>by first|rfl|cases h⟩⟩⟩
theorem tyOK32 : TyOK Try.prog 32 (tyT 32):=⟨⟨_,Try.underlying32,rfl⟩,⟨Try.t32,Try.type32,rfl,rfl,⟨rfl,rfl,rfl,fun h=>by first|rfl|cases h⟩⟩⟩
theorem tyOK34 : TyOK Try.prog 34 (tyT 34):=⟨⟨_,_,_,Try.underlying34⟩,⟨Try.t34,Try.type34,rfl,rfl,trivial⟩⟩
theorem tyOK35 : TyOK Try.prog 35 (tyT 35):=⟨⟨_,_,_,Try.underlying35⟩,⟨Try.t35,Try.type35,rfl,rfl,trivial⟩⟩
theorem tyOK36 : TyOK Try.prog 36 (tyT 36):=⟨⟨_,_,_,Try.underlying36⟩,⟨Try.t36,Try.type36,rfl,rfl,trivial⟩⟩
theorem tyOK37 : TyOK Try.prog 37 (tyT 37):=⟨⟨_,_,_,Try.underlying37⟩,⟨Try.t37,Try.type37,rfl,rfl,trivial⟩⟩
theorem tyOK38 : TyOK Try.prog 38 (tyT 38):=⟨⟨_,_,_,Try.underlying38⟩,⟨Try.t38,Try.type38,rfl,rfl,trivial⟩⟩
theorem tyOK39 : TyOK Try.prog 39 (tyT 39):=⟨⟨_,_,_,Try.underlying39⟩,⟨Try.t39,Try.type39,rfl,rfl,trivial⟩⟩
theorem tyOK40 : TyOK Try.prog 40 (tyT 40):=⟨⟨_,_,_,Try.underlying40⟩,⟨Try.t40,Try.type40,rfl,rfl,trivial⟩⟩
theorem tyOK41 : TyOK Try.prog 41 (tyT 41):=⟨⟨_,_,_,Try.underlying41⟩,⟨Try.t41,Try.type41,rfl,rfl,trivial⟩⟩
theorem tyOK42 : TyOK Try.prog 42 (tyT 42):=⟨⟨_,_,_,Try.underlying42⟩,⟨Try.t42,Try.type42,rfl,rfl,trivial⟩⟩
theorem tyOK43 : TyOK Try.prog 43 (tyT 43):=⟨⟨_,_,_,Try.underlying43⟩,⟨Try.t43,Try.type43,rfl,rfl,trivial⟩⟩
theorem tyOK44 : TyOK Try.prog 44 (tyT 44):=⟨⟨_,_,_,Try.underlying44⟩,⟨Try.t44,Try.type44,rfl,rfl,trivial⟩⟩
theorem tyOK45 : TyOK Try.prog 45 (tyT 45):=⟨⟨_,_,_,Try.underlying45⟩,⟨Try.t45,Try.type45,rfl,rfl,trivial⟩⟩
theorem tyOK46 : TyOK Try.prog 46 (tyT 46):=⟨⟨_,_,_,Try.underlying46⟩,⟨Try.t46,Try.type46,rfl,rfl,trivial⟩⟩
theorem tyOK47 : TyOK Try.prog 47 (tyT 47):=⟨⟨_,_,_,Try.underlying47⟩,⟨Try.t47,Try.type47,rfl,rfl,trivial⟩⟩
theorem tyOK48 : TyOK Try.prog 48 (tyT 48):=⟨⟨_,_,_,Try.underlying48⟩,⟨Try.t48,Try.type48,rfl,rfl,trivial⟩⟩
theorem tyOK49 : TyOK Try.prog 49 (tyT 49):=⟨⟨_,_,_,Try.underlying49⟩,⟨Try.t49,Try.type49,rfl,rfl,trivial⟩⟩
theorem tyOK50 : TyOK Try.prog 50 (tyT 50):=⟨⟨_,_,_,Try.underlying50⟩,⟨Try.t50,Try.type50,rfl,rfl,trivial⟩⟩
theorem tyOK51 : TyOK Try.prog 51 (tyT 51):=⟨⟨_,_,_,Try.underlying51⟩,⟨Try.t51,Try.type51,rfl,rfl,trivial⟩⟩
theorem tyOK52 : TyOK Try.prog 52 (tyT 52):=⟨⟨_,_,_,Try.underlying52⟩,⟨Try.t52,Try.type52,rfl,rfl,trivial⟩⟩
theorem tyOK53 : TyOK Try.prog 53 (tyT 53):=⟨⟨_,_,_,Try.underlying53⟩,⟨Try.t53,Try.type53,rfl,rfl,trivial⟩⟩
theorem tyOK54 : TyOK Try.prog 54 (tyT 54):=⟨⟨_,_,_,Try.underlying54⟩,⟨Try.t54,Try.type54,rfl,rfl,trivial⟩⟩
theorem tyOK55 : TyOK Try.prog 55 (tyT 55):=⟨⟨_,_,_,Try.underlying55⟩,⟨Try.t55,Try.type55,rfl,rfl,trivial⟩⟩
theorem tyOK56 : TyOK Try.prog 56 (tyT 56):=⟨⟨_,_,_,Try.underlying56⟩,⟨Try.t56,Try.type56,rfl,rfl,trivial⟩⟩
theorem tyOK57 : TyOK Try.prog 57 (tyT 57):=⟨⟨_,_,_,Try.underlying57⟩,⟨Try.t57,Try.type57,rfl,rfl,trivial⟩⟩
theorem tyOK58 : TyOK Try.prog 58 (tyT 58):=⟨⟨_,_,_,Try.underlying58⟩,⟨Try.t58,Try.type58,rfl,rfl,trivial⟩⟩
theorem tyOK59 : TyOK Try.prog 59 (tyT 59):=⟨⟨_,_,_,Try.underlying59⟩,⟨Try.t59,Try.type59,rfl,rfl,trivial⟩⟩
theorem tyOK61 : TyOK Try.prog 61 (tyT 61):=⟨⟨_,_,_,Try.underlying61⟩,⟨Try.t61,Try.type61,rfl,rfl,trivial⟩⟩
theorem tyOK62 : TyOK Try.prog 62 (tyT 62):=⟨⟨_,_,_,Try.underlying62⟩,⟨Try.t62,Try.type62,rfl,rfl,trivial⟩⟩
theorem tyOK63 : TyOK Try.prog 63 (tyT 63):=⟨Try.underlying63,⟨Try.t63,Try.type63,rfl,rfl,⟨rfl,rfl,rfl,fun h=>by first|rfl|cases h⟩⟩⟩
theorem tyOK64 : TyOK Try.prog 64 (tyT 64):=⟨Try.underlying64,⟨Try.t64,Try.type64,rfl,rfl,⟨rfl,rfl,rfl,fun h=>by first|rfl|cases h⟩⟩⟩
theorem tyOK65 : TyOK Try.prog 65 (tyT 65):=⟨⟨_,_,_,Try.underlying65⟩,⟨Try.t65,Try.type65,rfl,rfl,trivial⟩⟩
theorem tyOK66 : TyOK Try.prog 66 (tyT 66):=⟨⟨_,Try.underlying66,rfl⟩,⟨Try.t66,Try.type66,rfl,rfl,trivial⟩⟩
theorem tyOK67 : TyOK Try.prog 67 (tyT 67):=⟨⟨_,Try.underlying67,rfl⟩,⟨Try.t67,Try.type67,rfl,rfl,trivial⟩⟩
theorem tyOK69 : TyOK Try.prog 69 (tyT 69):=⟨⟨_,Try.underlying69,rfl⟩,⟨Try.t69,Try.type69,rfl,rfl,trivial⟩⟩
theorem tyOK70 : TyOK Try.prog 70 (tyT 70):=⟨⟨_,Try.underlying70,rfl⟩,⟨Try.t70,Try.type70,rfl,rfl,trivial⟩⟩
theorem tyOK71 : TyOK Try.prog 71 (tyT 71):=⟨⟨_,_,_,Try.underlying71⟩,⟨Try.t71,Try.type71,rfl,rfl,trivial⟩⟩
theorem tyOK72 : TyOK Try.prog 72 (tyT 72):=⟨Try.underlying72,⟨Try.t72,Try.type72,rfl,rfl,⟨rfl,rfl,rfl,fun h=>by first|rfl|cases h⟩⟩⟩
theorem tyOK73 : TyOK Try.prog 73 (tyT 73):=⟨Try.underlying73,⟨Try.t73,Try.type73,rfl,rfl,⟨rfl,rfl,rfl,fun h=>by first|rfl|cases h⟩⟩⟩
theorem tyOK74 : TyOK Try.prog 74 (tyT 74):=⟨Try.underlying74,⟨Try.t74,Try.type74,rfl,rfl,⟨rfl,rfl,rfl,fun h=>by first|rfl|cases h⟩⟩⟩
theorem tyOK75 : TyOK Try.prog 75 (tyT 75):=⟨⟨_,_,_,Try.underlying75⟩,⟨Try.t75,Try.type75,rfl,rfl,trivial⟩⟩
theorem tyOK76 : TyOK Try.prog 76 (tyT 76):=⟨⟨_,Try.underlying76⟩,⟨Try.t76,Try.type76,rfl,rfl,trivial⟩⟩
theorem tyOK77 : TyOK Try.prog 77 (tyT 77):=⟨Try.underlying77,⟨Try.t77,Try.type77,rfl,rfl,⟨rfl,rfl,rfl,fun h=>by first|rfl|cases h⟩⟩⟩
theorem tyOK78 : TyOK Try.prog 78 (tyT 78):=⟨Try.underlying78,⟨Try.t78,Try.type78,rfl,rfl,⟨rfl,rfl,rfl,fun h=>by first|rfl|cases h⟩⟩⟩
theorem tyOK79 : TyOK Try.prog 79 (tyT 79):=⟨⟨_,Try.underlying79,rfl⟩,⟨Try.t79,Try.type79,rfl,rfl,trivial⟩⟩
theorem tyOK80 : TyOK Try.prog 80 (tyT 80):=⟨⟨_,Try.underlying80,rfl⟩,⟨Try.t80,Try.type80,rfl,rfl,trivial⟩⟩
theorem tyOK81 : TyOK Try.prog 81 (tyT 81):=⟨⟨_,_,_,Try.underlying81⟩,⟨Try.t81,Try.type81,rfl,rfl,trivial⟩⟩
set_option maxRecDepth 100000 in
theorem tyOK : ∀ n,TyOK Try.prog n (tyT n):=by
  intro n
  unfold tyT
  split
  · exact tyOK1
  · exact tyOK2
  · exact tyOK3
  · exact tyOK4
  · exact tyOK5
  · exact tyOK6
  · exact tyOK7
  · exact tyOK8
  · exact tyOK9
  · exact tyOK10
  · exact tyOK11
  · exact tyOK12
  · exact tyOK13
  · exact tyOK14
  · exact tyOK15
  · exact tyOK16
  · exact tyOK17
  · exact tyOK18
  · exact tyOK19
  · exact tyOK20
  · exact tyOK21
  · exact tyOK22
  · exact tyOK23
  · exact tyOK24
  · exact tyOK25
  · exact tyOK26
  · exact tyOK27
  · exact tyOK28
  · exact tyOK29
  · exact tyOK30
  · exact tyOK31
  · exact tyOK32
  · exact tyOK34
  · exact tyOK35
  · exact tyOK36
  · exact tyOK37
  · exact tyOK38
  · exact tyOK39
  · exact tyOK40
  · exact tyOK41
  · exact tyOK42
  · exact tyOK43
  · exact tyOK44
  · exact tyOK45
  · exact tyOK46
  · exact tyOK47
  · exact tyOK48
  · exact tyOK49
  · exact tyOK50
  · exact tyOK51
  · exact tyOK52
  · exact tyOK53
  · exact tyOK54
  · exact tyOK55
  · exact tyOK56
  · exact tyOK57
  · exact tyOK58
  · exact tyOK59
  · exact tyOK61
  · exact tyOK62
  · exact tyOK63
  · exact tyOK64
  · exact tyOK65
  · exact tyOK66
  · exact tyOK67
  · exact tyOK69
  · exact tyOK70
  · exact tyOK71
  · exact tyOK72
  · exact tyOK73
  · exact tyOK74
  · exact tyOK75
  · exact tyOK76
  · exact tyOK77
  · exact tyOK78
  · exact tyOK79
  · exact tyOK80
  · exact tyOK81
  · exact ⟨trivial,trivial⟩
def TT : Tab Try.prog:=⟨tyT,tyOK⟩
theorem TT_1 : TT.T 1 = ⟨Ty.func,1,8,none⟩:=rfl
theorem TT_2 : TT.T 2 = ⟨Ty.int .i64,1,8,some [.int .i64 0]⟩:=rfl
theorem TT_3 : TT.T 3 = ⟨Ty.int .i64,1,8,some [.int .i64 0]⟩:=rfl
theorem TT_4 : TT.T 4 = ⟨Ty.bool,1,1,some [.bool false]⟩:=rfl
theorem TT_5 : TT.T 5 = ⟨Ty.int .u8,1,1,some [.int .u8 0]⟩:=rfl
theorem TT_6 : TT.T 6 = ⟨Ty.int .u8,1,1,some [.int .u8 0]⟩:=rfl
theorem TT_7 : TT.T 7 = ⟨Ty.strct [(0,2),(1,3),(2,4),(3,6)],4,24,some [.int .i64 0,.int .i64 0,.bool false,.int .u8 0]⟩:=rfl
theorem TT_8 : TT.T 8 = ⟨Ty.strct [(0,2),(1,3),(2,4),(3,6)],4,24,some [.int .i64 0,.int .i64 0,.bool false,.int .u8 0]⟩:=rfl
theorem TT_9 : TT.T 9 = ⟨Ty.str,1,16,some [.str []]⟩:=rfl
theorem TT_10 : TT.T 10 = ⟨Ty.str,1,16,some [.str []]⟩:=rfl
theorem TT_11 : TT.T 11 = ⟨Ty.str,1,16,some [.str []]⟩:=rfl
theorem TT_12 : TT.T 12 = ⟨Ty.int .u64,1,8,some [.int .u64 0]⟩:=rfl
theorem TT_13 : TT.T 13 = ⟨Ty.strct [(0,9),(1,12)],2,24,some [.str [],.int .u64 0]⟩:=rfl
theorem TT_14 : TT.T 14 = ⟨Ty.strct [(0,9),(1,12)],2,24,some [.str [],.int .u64 0]⟩:=rfl
theorem TT_15 : TT.T 15 = ⟨Ty.ptr,1,8,none⟩:=rfl
theorem TT_16 : TT.T 16 = ⟨Ty.ptr,1,8,none⟩:=rfl
theorem TT_17 : TT.T 17 = ⟨Ty.ptr,1,8,none⟩:=rfl
theorem TT_18 : TT.T 18 = ⟨Ty.strct [(0,17)],1,8,none⟩:=rfl
theorem TT_19 : TT.T 19 = ⟨Ty.strct [(0,17)],1,8,none⟩:=rfl
theorem TT_20 : TT.T 20 = ⟨Ty.iface,1,16,none⟩:=rfl
theorem TT_21 : TT.T 21 = ⟨Ty.int .i32,1,4,some [.int .i32 0]⟩:=rfl
theorem TT_22 : TT.T 22 = ⟨Ty.slice 24,1,24,some [.sl 4 [] .full]⟩:=rfl
theorem TT_23 : TT.T 23 = ⟨Ty.strct [(0,3),(1,3),(2,9),(3,22)],4,56,some [.int .i64 0,.int .i64 0,.str [],.sl 4 [] .full]⟩:=rfl
theorem TT_24 : TT.T 24 = ⟨Ty.strct [(0,3),(1,3),(2,9),(3,22)],4,56,some [.int .i64 0,.int .i64 0,.str [],.sl 4 [] .full]⟩:=rfl
theorem TT_25 : TT.T 25 = ⟨Ty.strct [(0,9),(1,4),(2,3),(3,3),(4,3),(5,24)],9,104,some [.str [],.bool false,.int .i64 0,.int .i64 0,.int .i64 0,.int .i64 0,.int .i64 0,.str [],.sl 4 [] .full]⟩:=rfl
theorem TT_26 : TT.T 26 = ⟨Ty.strct [(0,9),(1,4),(2,3),(3,3),(4,3),(5,24)],9,104,some [.str [],.bool false,.int .i64 0,.int .i64 0,.int .i64 0,.int .i64 0,.int .i64 0,.str [],.sl 4 [] .full]⟩:=rfl
theorem TT_27 : TT.T 27 = ⟨Ty.func,1,8,none⟩:=rfl
theorem TT_28 : TT.T 28 = ⟨Ty.slice 30,1,24,some [.sl 4 [] .full]⟩:=rfl
theorem TT_29 : TT.T 29 = ⟨Ty.strct [(0,3),(1,3),(2,9),(3,28)],4,56,some [.int .i64 0,.int .i64 0,.str [],.sl 4 [] .full]⟩:=rfl
theorem TT_30 : TT.T 30 = ⟨Ty.strct [(0,3),(1,3),(2,9),(3,28)],4,56,some [.int .i64 0,.int .i64 0,.str [],.sl 4 [] .full]⟩:=rfl
theorem TT_31 : TT.T 31 = ⟨Ty.strct [(0,9),(1,4),(2,3),(3,3),(4,3),(5,30)],9,104,some [.str [],.bool false,.int .i64 0,.int .i64 0,.int .i64 0,.int .i64 0,.int .i64 0,.str [],.sl 4 [] .full]⟩:=rfl
theorem TT_32 : TT.T 32 = ⟨Ty.strct [(0,9),(1,4),(2,3),(3,3),(4,3),(5,30)],9,104,some [.str [],.bool false,.int .i64 0,.int .i64 0,.int .i64 0,.int .i64 0,.int .i64 0,.str [],.sl 4 [] .full]⟩:=rfl
theorem TT_34 : TT.T 34 = ⟨Ty.func,1,8,none⟩:=rfl
theorem TT_35 : TT.T 35 = ⟨Ty.func,1,8,none⟩:=rfl
theorem TT_36 : TT.T 36 = ⟨Ty.func,1,8,none⟩:=rfl
theorem TT_37 : TT.T 37 = ⟨Ty.func,1,8,none⟩:=rfl
theorem TT_38 : TT.T 38 = ⟨Ty.func,1,8,none⟩:=rfl
theorem TT_39 : TT.T 39 = ⟨Ty.func,1,8,none⟩:=rfl
theorem TT_40 : TT.T 40 = ⟨Ty.func,1,8,none⟩:=rfl
theorem TT_41 : TT.T 41 = ⟨Ty.func,1,8,none⟩:=rfl
theorem TT_42 : TT.T 42 = ⟨Ty.func,1,8,none⟩:=rfl
theorem TT_43 : TT.T 43 = ⟨Ty.func,1,8,none⟩:=rfl
theorem TT_44 : TT.T 44 = ⟨Ty.func,1,8,none⟩:=rfl
theorem TT_45 : TT.T 45 = ⟨Ty.func,1,8,none⟩:=rfl
theorem TT_46 : TT.T 46 = ⟨Ty.func,1,8,none⟩:=rfl
theorem TT_47 : TT.T 47 = ⟨Ty.func,1,8,none⟩:=rfl
theorem TT_48 : TT.T 48 = ⟨Ty.func,1,8,none⟩:=rfl
theorem TT_49 : TT.T 49 = ⟨Ty.func,1,8,none⟩:=rfl
theorem TT_50 : TT.T 50 = ⟨Ty.func,1,8,none⟩:=rfl
theorem TT_51 : TT.T 51 = ⟨Ty.func,1,8,none⟩:=rfl
theorem TT_52 : TT.T 52 = ⟨Ty.func,1,8,none⟩:=rfl
theorem TT_53 : TT.T 53 = ⟨Ty.func,1,8,none⟩:=rfl
theorem TT_54 : TT.T 54 = ⟨Ty.func,1,8,none⟩:=rfl
theorem TT_55 : TT.T 55 = ⟨Ty.func,1,8,none⟩:=rfl
theorem TT_56 : TT.T 56 = ⟨Ty.func,1,8,none⟩:=rfl
theorem TT_57 : TT.T 57 = ⟨Ty.func,1,8,none⟩:=rfl
theorem TT_58 : TT.T 58 = ⟨Ty.func,1,8,none⟩:=rfl
theorem TT_59 : TT.T 59 = ⟨Ty.func,1,8,none⟩:=rfl
theorem TT_61 : TT.T 61 = ⟨Ty.func,1,8,none⟩:=rfl
theorem TT_62 : TT.T 62 = ⟨Ty.func,1,8,none⟩:=rfl
theorem TT_63 : TT.T 63 = ⟨Ty.slice 5,1,24,some [.sl 1 [] .full]⟩:=rfl
theorem TT_64 : TT.T 64 = ⟨Ty.slice 3,1,24,some [.sl 1 [] .full]⟩:=rfl
theorem TT_65 : TT.T 65 = ⟨Ty.func,1,8,none⟩:=rfl
theorem TT_66 : TT.T 66 = ⟨Ty.strct [(0,17),(1,17),(2,17),(3,9)],4,40,none⟩:=rfl
theorem TT_67 : TT.T 67 = ⟨Ty.strct [(0,17),(1,17),(2,17),(3,9)],4,40,none⟩:=rfl
theorem TT_69 : TT.T 69 = ⟨Ty.strct [(0,68)],0,0,none⟩:=rfl
theorem TT_70 : TT.T 70 = ⟨Ty.strct [(0,68)],0,0,none⟩:=rfl
theorem TT_71 : TT.T 71 = ⟨Ty.func,1,8,none⟩:=rfl
theorem TT_72 : TT.T 72 = ⟨Ty.int .u32,1,4,some [.int .u32 0]⟩:=rfl
theorem TT_73 : TT.T 73 = ⟨Ty.int .u8,1,1,some [.int .u8 0]⟩:=rfl
theorem TT_74 : TT.T 74 = ⟨Ty.int .u8,1,1,some [.int .u8 0]⟩:=rfl
theorem TT_75 : TT.T 75 = ⟨Ty.func,1,8,none⟩:=rfl
theorem TT_76 : TT.T 76 = ⟨Ty.ptr,1,8,none⟩:=rfl
theorem TT_77 : TT.T 77 = ⟨Ty.int .i32,1,4,some [.int .i32 0]⟩:=rfl
theorem TT_78 : TT.T 78 = ⟨Ty.int .i32,1,4,some [.int .i32 0]⟩:=rfl
theorem TT_79 : TT.T 79 = ⟨Ty.strct [(0,12),(1,12),(2,72),(3,73),(4,5),(5,5),(6,74),(7,75),(8,76),(9,77),(10,78)],11,48,none⟩:=rfl
theorem TT_80 : TT.T 80 = ⟨Ty.strct [(0,12),(1,12),(2,72),(3,73),(4,5),(5,5),(6,74),(7,75),(8,76),(9,77),(10,78)],11,48,none⟩:=rfl
theorem TT_81 : TT.T 81 = ⟨Ty.func,1,8,none⟩:=rfl
attribute [go_sem] TT_1 TT_2 TT_3 TT_4 TT_5 TT_6 TT_7 TT_8 TT_9 TT_10 TT_11 TT_12 TT_13 TT_14 TT_15 TT_16 TT_17 TT_18 TT_19 TT_20 TT_21 TT_22 TT_23 TT_24 TT_25 TT_26 TT_27 TT_28 TT_29 TT_30 TT_31 TT_32 TT_34 TT_35 TT_36 TT_37 TT_38 TT_39 TT_40 TT_41 TT_42 TT_43 TT_44 TT_45 TT_46 TT_47 TT_48 TT_49 TT_50 TT_51 TT_52 TT_53 TT_54 TT_55 TT_56 TT_57 TT_58 TT_59 TT_61 TT_62 TT_63 TT_64 TT_65 TT_66 TT_67 TT_69 TT_70 TT_71 TT_72 TT_73 TT_74 TT_75 TT_76 TT_77 TT_78 TT_79 TT_80 TT_81
theorem MX : Try.prog.follows .mixedOrders = true:=by kernel_rfl
end Go.Proofs.Ytfehmaadljngiaa
