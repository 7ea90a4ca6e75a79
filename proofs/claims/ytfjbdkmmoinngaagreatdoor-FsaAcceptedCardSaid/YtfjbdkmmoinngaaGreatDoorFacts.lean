/- Facts on types (printed by facts.py). -/
import Derived.Test.YtfjbdkmmoinngaaGreatDoorAnn
set_option linter.unusedVariables false
set_option linter.unusedSimpArgs false
set_option linter.unusedSectionVars false
namespace Go.Dv
open Go Go.Sim Go.Proofs
theorem zdr:zv0 Tryz.prog 139=true:=by kernel_rfl
theorem zds:zv0 Tryz.prog 142=true:=by kernel_rfl
theorem zdt:zv0 Tryz.prog 145=true:=by kernel_rfl
theorem zdu:zv0 Tryz.prog 155=true:=by kernel_rfl
theorem zdv:zv0 Tryz.prog 160=true:=by kernel_rfl
theorem zaq:zv0 Tryz.prog 22=true:=by kernel_rfl
theorem zar:zv0 Tryz.prog 23=true:=by kernel_rfl
theorem zas:zv0 Tryz.prog 26=true:=by kernel_rfl
theorem yuu:zv0 Tryz.prog 9=true:=by kernel_rfl
theorem zat:zyn Tryz.prog 101=some 2:=by kernel_rfl
theorem zau:zyn Tryz.prog 103=some 1:=by kernel_rfl
theorem zav:zyn Tryz.prog 112=some 2:=by kernel_rfl
theorem zaw:zyn Tryz.prog 115=some 1:=by kernel_rfl
theorem zax:zyn Tryz.prog 128=some 1:=by kernel_rfl
theorem zay:zyn Tryz.prog 129=some 1:=by kernel_rfl
theorem zaz:zyn Tryz.prog 130=some 5:=by kernel_rfl
theorem za0:zyn Tryz.prog 133=some 2:=by kernel_rfl
theorem za1:zyn Tryz.prog 153=some 2:=by kernel_rfl
theorem za2:zyn Tryz.prog 158=some 1:=by kernel_rfl
theorem yuv:zyn Tryz.prog 22=some 1:=by kernel_rfl
theorem yuw:zyn Tryz.prog 23=some 1:=by kernel_rfl
theorem yux:zyn Tryz.prog 25=some 4:=by kernel_rfl
theorem yuy:zyn Tryz.prog 26=some 1:=by kernel_rfl
theorem you:zyn Tryz.prog 3=some 1:=by kernel_rfl
theorem yov:zyn Tryz.prog 4=some 1:=by kernel_rfl
theorem yow:zyn Tryz.prog 5=some 1:=by kernel_rfl
theorem yuz:zlv Tryz.prog 115=none:=by kernel_rfl
theorem yu0:zlv Tryz.prog 130=some (5,(1,129)):=by kernel_rfl
theorem yu1:zlv Tryz.prog 133=some (2,(1,3)):=by kernel_rfl
theorem yu2:zlv Tryz.prog 139=none:=by kernel_rfl
theorem yu3:zlv Tryz.prog 142=none:=by kernel_rfl
theorem yu4:zlv Tryz.prog 145=none:=by kernel_rfl
theorem yu5:zlv Tryz.prog 160=none:=by kernel_rfl
theorem yu6:zlv Tryz.prog 197=some (65,(1,5)):=by kernel_rfl
theorem yox:zlv Tryz.prog 22=none:=by kernel_rfl
theorem yoy:zlv Tryz.prog 23=none:=by kernel_rfl
theorem yoz:zlv Tryz.prog 26=none:=by kernel_rfl
theorem yo0:zlv Tryz.prog 65=none:=by kernel_rfl
theorem yh2:zlv Tryz.prog 9=none:=by kernel_rfl
theorem yo1:tBd Tryz.prog 101=some ([(.f (.raw (.int (.i64) 0))),(.f (.raw (.string (.mk ⟨[]⟩))))],λi=>([(0,1),(1,1)]:List (Nat×Nat))[i]?):=by kernel_rfl
theorem yo2:tBd Tryz.prog 112=some ([(.f (.raw (.bool false))),(.f (.raw (.string (.mk ⟨[]⟩))))],λi=>([(0,1),(1,1)]:List (Nat×Nat))[i]?):=by kernel_rfl
theorem yu7:tBd Tryz.prog 130=some ([(.f (.raw (.nilFunc))),(.f (.raw (.nilFunc))),(.f (.raw (.nilFunc))),(.f (.raw (.nilFunc))),(.f (.raw (.nilFunc)))],λi=>some (i*1,1)):=by kernel_rfl
theorem yu8:tBd Tryz.prog 133=some ([(.f (.raw (.int (.i64) 0))),(.f (.raw (.int (.i64) 0)))],λi=>some (i*1,1)):=by kernel_rfl
theorem yu9:tBd Tryz.prog 153=some ([(.f (.raw (.bool false))),(.f (.raw (.bool false)))],λi=>some (i*1,1)):=by kernel_rfl
theorem yh3:tBd Tryz.prog 25=some ([(.f (.raw (.int (.i64) 0))),(.f (.raw (.int (.i64) 0))),(.f (.raw (.slice none 0 0))),(.f (.raw (.slice none 0 0)))],λi=>([(0,1),(1,1),(2,1),(3,1)]:List (Nat×Nat))[i]?):=by kernel_rfl
theorem yh4:tBd Tryz.prog 82=some ([(.f (.raw (.int (.i64) 0))),(.f (.raw (.slice none 0 0))),(.f (.raw (.slice none 0 0))),(.f (.raw (.slice none 0 0))),(.f (.raw (.slice none 0 0)))],λi=>([(0,1),(1,1),(2,1),(3,1),(4,1)]:List (Nat×Nat))[i]?):=by kernel_rfl
theorem zdw:zki Tryz.prog 101 0=some (0,3):=by kernel_rfl
theorem zdx:zki Tryz.prog 101 1=some (1,9):=by kernel_rfl
theorem zdy:zki Tryz.prog 112 0=some (0,4):=by kernel_rfl
theorem zdz:zki Tryz.prog 112 1=some (1,9):=by kernel_rfl
theorem za3:zki Tryz.prog 25 0=some (0,3):=by kernel_rfl
theorem za4:zki Tryz.prog 25 1=some (1,3):=by kernel_rfl
theorem za5:zki Tryz.prog 25 2=some (2,22):=by kernel_rfl
theorem za6:zki Tryz.prog 25 3=some (3,23):=by kernel_rfl
theorem za7:zki Tryz.prog 82 0=some (0,3):=by kernel_rfl
theorem za8:zki Tryz.prog 82 1=some (1,22):=by kernel_rfl
theorem za9:zki Tryz.prog 82 2=some (2,23):=by kernel_rfl
theorem yza:zki Tryz.prog 82 3=some (3,26):=by kernel_rfl
theorem yzb:zki Tryz.prog 82 4=some (4,26):=by kernel_rfl
theorem yo3:tLd Tryz.prog 101=some (some 2):=by kernel_rfl
theorem yo4:tLd Tryz.prog 103=some none:=by kernel_rfl
theorem yo5:tLd Tryz.prog 112=some (some 2):=by kernel_rfl
theorem yo6:tLd Tryz.prog 115=some none:=by kernel_rfl
theorem yo7:tLd Tryz.prog 128=some none:=by kernel_rfl
theorem yo8:tLd Tryz.prog 129=some none:=by kernel_rfl
theorem yo9:tLd Tryz.prog 130=some (some 5):=by kernel_rfl
theorem yna:tLd Tryz.prog 133=some (some 2):=by kernel_rfl
theorem ynb:tLd Tryz.prog 153=some (some 2):=by kernel_rfl
theorem ync:tLd Tryz.prog 158=some none:=by kernel_rfl
theorem yh5:tLd Tryz.prog 22=some none:=by kernel_rfl
theorem yh6:tLd Tryz.prog 23=some none:=by kernel_rfl
theorem yh7:tLd Tryz.prog 25=some (some 4):=by kernel_rfl
theorem yh8:tLd Tryz.prog 26=some none:=by kernel_rfl
theorem xz0:tLd Tryz.prog 3=some none:=by kernel_rfl
theorem xz1:tLd Tryz.prog 4=some none:=by kernel_rfl
theorem yh9:tLd Tryz.prog 70=some none:=by kernel_rfl
theorem xz2:tLd Tryz.prog 9=some none:=by kernel_rfl
theorem yta:zex Tryz.prog 115=some 3:=by kernel_rfl
theorem ytb:zex Tryz.prog 139=some 3:=by kernel_rfl
theorem ytc:zex Tryz.prog 142=some 3:=by kernel_rfl
theorem ytd:zex Tryz.prog 144=some 1:=by kernel_rfl
theorem yte:zex Tryz.prog 145=some 3:=by kernel_rfl
theorem ytf:zex Tryz.prog 160=some 3:=by kernel_rfl
theorem ytg:zex Tryz.prog 166=some 1:=by kernel_rfl
theorem ynd:zex Tryz.prog 22=some 3:=by kernel_rfl
theorem yne:zex Tryz.prog 23=some 3:=by kernel_rfl
theorem ynf:zex Tryz.prog 26=some 3:=by kernel_rfl
theorem yng:zex Tryz.prog 65=some 3:=by kernel_rfl
theorem yga:zex Tryz.prog 9=some 0:=by kernel_rfl
theorem yth:zer Tryz.prog 138=some (101,(some (.int (.i64) 0))):=by kernel_rfl
theorem yti:zer Tryz.prog 141=some (112,(some (.int (.i64) 0))):=by kernel_rfl
theorem ytj:zer Tryz.prog 144=some (9,(some (.int (.i64) 0))):=by kernel_rfl
theorem ytk:zer Tryz.prog 158=some (3,(some (.int (.i64) 0))):=by kernel_rfl
theorem ytl:zer Tryz.prog 159=some (133,(some (.int (.i64) 0))):=by kernel_rfl
theorem ytm:zer Tryz.prog 166=some (153,(some (.int (.i64) 0))):=by kernel_rfl
theorem ynh:tSl Tryz.prog 115=some ⟨23,1,24,(.f (.raw (.slice none 0 0)))⟩:=by kernel_rfl
theorem yni:tSl Tryz.prog 133=none:=by kernel_rfl
theorem ynj:tSl Tryz.prog 139=some ⟨101,2,24,(.agg [(.f (.raw (.int (.i64) 0))),(.f (.raw (.string (.mk ⟨[]⟩))))])⟩:=by kernel_rfl
theorem ynk:tSl Tryz.prog 142=some ⟨112,2,24,(.agg [(.f (.raw (.bool false))),(.f (.raw (.string (.mk ⟨[]⟩))))])⟩:=by kernel_rfl
theorem ynl:tSl Tryz.prog 145=some ⟨9,1,16,(.f (.raw (.string (.mk ⟨[]⟩))))⟩:=by kernel_rfl
theorem ynm:tSl Tryz.prog 155=some ⟨5,1,1,(.f (.raw (.int (.u8) 0)))⟩:=by kernel_rfl
theorem ynn:tSl Tryz.prog 160=some ⟨133,2,16,(.agg [(.f (.raw (.int (.i64) 0))),(.f (.raw (.int (.i64) 0)))])⟩:=by kernel_rfl
theorem yno:tSl Tryz.prog 187=none:=by kernel_rfl
theorem ynp:tSl Tryz.prog 197=none:=by kernel_rfl
theorem ygb:tSl Tryz.prog 22=some ⟨4,1,1,(.f (.raw (.bool false)))⟩:=by kernel_rfl
theorem ygc:tSl Tryz.prog 23=some ⟨26,1,24,(.f (.raw (.slice none 0 0)))⟩:=by kernel_rfl
theorem ygd:tSl Tryz.prog 26=some ⟨3,1,8,(.f (.raw (.int (.i64) 0)))⟩:=by kernel_rfl
theorem yge:tSl Tryz.prog 65=some ⟨25,4,64,(.agg [(.f (.raw (.int (.i64) 0))),(.f (.raw (.int (.i64) 0))),(.f (.raw (.slice none 0 0))),(.f (.raw (.slice none 0 0)))])⟩:=by kernel_rfl
theorem zi2:yvn Tryz.prog 147 176=false:=by kernel_rfl
theorem zd0:yvn Tryz.prog 155 9=true:=by kernel_rfl
theorem zd1:yvn Tryz.prog 178 3=false:=by kernel_rfl
theorem zd2:yvn Tryz.prog 178 5=false:=by kernel_rfl
theorem zd3:yvn Tryz.prog 2 178=false:=by kernel_rfl
theorem zd4:yvn Tryz.prog 3 147=false:=by kernel_rfl
theorem zd5:yvn Tryz.prog 3 178=false:=by kernel_rfl
theorem ytn:yvn Tryz.prog 3 5=false:=by kernel_rfl
theorem yto:yvn Tryz.prog 5 3=false:=by kernel_rfl
theorem yzc:zxn Tryz.prog 101=some (.agg ⟨[(.int (.i64) 0),(.string (.mk ⟨[]⟩))]⟩):=by kernel_rfl
theorem yzd:zxn Tryz.prog 103=some (.nilFunc):=by kernel_rfl
theorem yze:zxn Tryz.prog 112=some (.agg ⟨[(.bool false),(.string (.mk ⟨[]⟩))]⟩):=by kernel_rfl
theorem yzf:zxn Tryz.prog 115=some (.slice none 0 0):=by kernel_rfl
theorem yzg:zxn Tryz.prog 128=some (.nilFunc):=by kernel_rfl
theorem yzh:zxn Tryz.prog 129=some (.nilFunc):=by kernel_rfl
theorem yzi:zxn Tryz.prog 130=some (.agg ⟨[(.nilFunc),(.nilFunc),(.nilFunc),(.nilFunc),(.nilFunc)]⟩):=by kernel_rfl
theorem yzj:zxn Tryz.prog 133=some (.agg ⟨[(.int (.i64) 0),(.int (.i64) 0)]⟩):=by kernel_rfl
theorem yzk:zxn Tryz.prog 153=some (.agg ⟨[(.bool false),(.bool false)]⟩):=by kernel_rfl
theorem yzl:zxn Tryz.prog 158=some (.map none):=by kernel_rfl
theorem yzm:zxn Tryz.prog 187=some (.agg ⟨[(.int (.u8) 0),(.int (.u8) 0),(.int (.u8) 0),(.int (.u8) 0),(.int (.u8) 0),(.int (.u8) 0),(.int (.u8) 0),(.int (.u8) 0),(.int (.u8) 0),(.int (.u8) 0),(.int (.u8) 0),(.int (.u8) 0),(.int (.u8) 0),(.int (.u8) 0),(.int (.u8) 0),(.int (.u8) 0),(.int (.u8) 0),(.int (.u8) 0),(.int (.u8) 0),(.int (.u8) 0),(.int (.u8) 0),(.int (.u8) 0),(.int (.u8) 0),(.int (.u8) 0)]⟩):=by kernel_rfl
theorem zys:zxn Tryz.prog 197=some (.agg ⟨[(.int (.u8) 0),(.int (.u8) 0),(.int (.u8) 0),(.int (.u8) 0),(.int (.u8) 0),(.int (.u8) 0),(.int (.u8) 0),(.int (.u8) 0),(.int (.u8) 0),(.int (.u8) 0),(.int (.u8) 0),(.int (.u8) 0),(.int (.u8) 0),(.int (.u8) 0),(.int (.u8) 0),(.int (.u8) 0),(.int (.u8) 0),(.int (.u8) 0),(.int (.u8) 0),(.int (.u8) 0),(.int (.u8) 0),(.int (.u8) 0),(.int (.u8) 0),(.int (.u8) 0),(.int (.u8) 0),(.int (.u8) 0),(.int (.u8) 0),(.int (.u8) 0),(.int (.u8) 0),(.int (.u8) 0),(.int (.u8) 0),(.int (.u8) 0),(.int (.u8) 0),(.int (.u8) 0),(.int (.u8) 0),(.int (.u8) 0),(.int (.u8) 0),(.int (.u8) 0),(.int (.u8) 0),(.int (.u8) 0),(.int (.u8) 0),(.int (.u8) 0),(.int (.u8) 0),(.int (.u8) 0),(.int (.u8) 0),(.int (.u8) 0),(.int (.u8) 0),(.int (.u8) 0),(.int (.u8) 0),(.int (.u8) 0),(.int (.u8) 0),(.int (.u8) 0),(.int (.u8) 0),(.int (.u8) 0),(.int (.u8) 0),(.int (.u8) 0),(.int (.u8) 0),(.int (.u8) 0),(.int (.u8) 0),(.int (.u8) 0),(.int (.u8) 0),(.int (.u8) 0),(.int (.u8) 0),(.int (.u8) 0),(.int (.u8) 0)]⟩):=by kernel_rfl
theorem ytp:zxn Tryz.prog 22=some (.slice none 0 0):=by kernel_rfl
theorem ytq:zxn Tryz.prog 25=some (.agg ⟨[(.int (.i64) 0),(.int (.i64) 0),(.slice none 0 0),(.slice none 0 0)]⟩):=by kernel_rfl
theorem ytr:zxn Tryz.prog 26=some (.slice none 0 0):=by kernel_rfl
attribute [simp] Q_P zdr zds zdt zdu zdv zaq zar zas yuu zat zau zav zaw zax zay zaz za0 za1 za2 yuv yuw yux yuy you yov yow yuz yu0 yu1 yu2 yu3 yu4 yu5 yu6 yox yoy yoz yo0 yh2 yo1 yo2 yu7 yu8 yu9 yh3 yh4 zdw zdx zdy zdz za3 za4 za5 za6 za7 za8 za9 yza yzb yo3 yo4 yo5 yo6 yo7 yo8 yo9 yna ynb ync yh5 yh6 yh7 yh8 xz0 xz1 yh9 xz2 yta ytb ytc ytd yte ytf ytg ynd yne ynf yng yga yth yti ytj ytk ytl ytm ynh yni ynj ynk ynl ynm ynn yno ynp ygb ygc ygd yge zi2 zd0 zd1 zd2 zd3 zd4 zd5 ytn yto yzc yzd yze yzf yzg yzh yzi yzj yzk yzl yzm ytp ytq ytr Int.ofNat_inj Int.ofNat_lt Int.ofNat_le
end Go.Dv
