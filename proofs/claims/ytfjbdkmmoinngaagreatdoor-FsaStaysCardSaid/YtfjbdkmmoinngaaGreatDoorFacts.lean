/- Facts on types (printed by facts.py). -/
import Derived.Test.YtfjbdkmmoinngaaGreatDoorAnn
set_option linter.unusedVariables false
set_option linter.unusedSimpArgs false
set_option linter.unusedSectionVars false
namespace Go.Dv
open Go Go.Sim Go.Proofs
theorem ze6:zvt Tryz.prog 139=true:=by kernel_rfl
theorem ze7:zvt Tryz.prog 142=true:=by kernel_rfl
theorem ze8:zvt Tryz.prog 145=true:=by kernel_rfl
theorem ze9:zvt Tryz.prog 155=true:=by kernel_rfl
theorem zda:zvt Tryz.prog 160=true:=by kernel_rfl
theorem zb9:zvt Tryz.prog 22=true:=by kernel_rfl
theorem zaa:zvt Tryz.prog 23=true:=by kernel_rfl
theorem zab:zvt Tryz.prog 26=true:=by kernel_rfl
theorem zac:zvt Tryz.prog 84=true:=by kernel_rfl
theorem yuh:zvt Tryz.prog 9=true:=by kernel_rfl
theorem zad:zyl Tryz.prog 101=some 2:=by kernel_rfl
theorem zae:zyl Tryz.prog 103=some 1:=by kernel_rfl
theorem zaf:zyl Tryz.prog 112=some 2:=by kernel_rfl
theorem zag:zyl Tryz.prog 115=some 1:=by kernel_rfl
theorem zah:zyl Tryz.prog 128=some 1:=by kernel_rfl
theorem zai:zyl Tryz.prog 129=some 1:=by kernel_rfl
theorem zaj:zyl Tryz.prog 130=some 5:=by kernel_rfl
theorem zak:zyl Tryz.prog 133=some 2:=by kernel_rfl
theorem zal:zyl Tryz.prog 153=some 2:=by kernel_rfl
theorem zam:zyl Tryz.prog 158=some 1:=by kernel_rfl
theorem yui:zyl Tryz.prog 22=some 1:=by kernel_rfl
theorem yuj:zyl Tryz.prog 23=some 1:=by kernel_rfl
theorem yuk:zyl Tryz.prog 25=some 4:=by kernel_rfl
theorem yul:zyl Tryz.prog 26=some 1:=by kernel_rfl
theorem yo0:zyl Tryz.prog 3=some 1:=by kernel_rfl
theorem yo1:zyl Tryz.prog 4=some 1:=by kernel_rfl
theorem yo2:zyl Tryz.prog 5=some 1:=by kernel_rfl
theorem yum:zyl Tryz.prog 70=some 1:=by kernel_rfl
theorem yun:zyl Tryz.prog 84=some 1:=by kernel_rfl
theorem yuo:zyl Tryz.prog 88=some 1:=by kernel_rfl
theorem yup:zmy Tryz.prog 115=none:=by kernel_rfl
theorem yuq:zmy Tryz.prog 130=some (5,(1,129)):=by kernel_rfl
theorem yur:zmy Tryz.prog 133=some (2,(1,3)):=by kernel_rfl
theorem yus:zmy Tryz.prog 139=none:=by kernel_rfl
theorem yut:zmy Tryz.prog 142=none:=by kernel_rfl
theorem yuu:zmy Tryz.prog 145=none:=by kernel_rfl
theorem yuv:zmy Tryz.prog 160=none:=by kernel_rfl
theorem yuw:zmy Tryz.prog 197=some (65,(1,5)):=by kernel_rfl
theorem yo3:zmy Tryz.prog 22=none:=by kernel_rfl
theorem yo4:zmy Tryz.prog 23=none:=by kernel_rfl
theorem yo5:zmy Tryz.prog 26=none:=by kernel_rfl
theorem yo6:zmy Tryz.prog 65=none:=by kernel_rfl
theorem yo7:zmy Tryz.prog 84=none:=by kernel_rfl
theorem ygn:zmy Tryz.prog 9=none:=by kernel_rfl
theorem yo8:tBd Tryz.prog 101=some ([(.f (.raw (.int (.i64) 0))),(.f (.raw (.string (.mk ⟨[]⟩))))],λi=>([(0,1),(1,1)]:List (Nat×Nat))[i]?):=by kernel_rfl
theorem yo9:tBd Tryz.prog 112=some ([(.f (.raw (.bool false))),(.f (.raw (.string (.mk ⟨[]⟩))))],λi=>([(0,1),(1,1)]:List (Nat×Nat))[i]?):=by kernel_rfl
theorem yux:tBd Tryz.prog 130=some ([(.f (.raw (.nilFunc))),(.f (.raw (.nilFunc))),(.f (.raw (.nilFunc))),(.f (.raw (.nilFunc))),(.f (.raw (.nilFunc)))],λi=>some (i*1,1)):=by kernel_rfl
theorem yuy:tBd Tryz.prog 133=some ([(.f (.raw (.int (.i64) 0))),(.f (.raw (.int (.i64) 0)))],λi=>some (i*1,1)):=by kernel_rfl
theorem yuz:tBd Tryz.prog 153=some ([(.f (.raw (.bool false))),(.f (.raw (.bool false)))],λi=>some (i*1,1)):=by kernel_rfl
theorem ygo:tBd Tryz.prog 25=some ([(.f (.raw (.int (.i64) 0))),(.f (.raw (.int (.i64) 0))),(.f (.raw (.slice none 0 0))),(.f (.raw (.slice none 0 0)))],λi=>([(0,1),(1,1),(2,1),(3,1)]:List (Nat×Nat))[i]?):=by kernel_rfl
theorem ygp:tBd Tryz.prog 82=some ([(.f (.raw (.int (.i64) 0))),(.f (.raw (.slice none 0 0))),(.f (.raw (.slice none 0 0))),(.f (.raw (.slice none 0 0))),(.f (.raw (.slice none 0 0)))],λi=>([(0,1),(1,1),(2,1),(3,1),(4,1)]:List (Nat×Nat))[i]?):=by kernel_rfl
theorem zdb:zl1 Tryz.prog 101 0=some (0,3):=by kernel_rfl
theorem zdc:zl1 Tryz.prog 101 1=some (1,9):=by kernel_rfl
theorem zdd:zl1 Tryz.prog 112 0=some (0,4):=by kernel_rfl
theorem zde:zl1 Tryz.prog 112 1=some (1,9):=by kernel_rfl
theorem zan:zl1 Tryz.prog 25 0=some (0,3):=by kernel_rfl
theorem zao:zl1 Tryz.prog 25 1=some (1,3):=by kernel_rfl
theorem zap:zl1 Tryz.prog 25 2=some (2,22):=by kernel_rfl
theorem zaq:zl1 Tryz.prog 25 3=some (3,23):=by kernel_rfl
theorem zar:zl1 Tryz.prog 82 0=some (0,3):=by kernel_rfl
theorem zas:zl1 Tryz.prog 82 1=some (1,22):=by kernel_rfl
theorem zat:zl1 Tryz.prog 82 2=some (2,23):=by kernel_rfl
theorem zau:zl1 Tryz.prog 82 3=some (3,26):=by kernel_rfl
theorem zav:zl1 Tryz.prog 82 4=some (4,26):=by kernel_rfl
theorem yna:tLd Tryz.prog 101=some (some 2):=by kernel_rfl
theorem ynb:tLd Tryz.prog 103=some none:=by kernel_rfl
theorem ync:tLd Tryz.prog 112=some (some 2):=by kernel_rfl
theorem ynd:tLd Tryz.prog 115=some none:=by kernel_rfl
theorem yne:tLd Tryz.prog 128=some none:=by kernel_rfl
theorem ynf:tLd Tryz.prog 129=some none:=by kernel_rfl
theorem yng:tLd Tryz.prog 130=some (some 5):=by kernel_rfl
theorem ynh:tLd Tryz.prog 133=some (some 2):=by kernel_rfl
theorem yni:tLd Tryz.prog 153=some (some 2):=by kernel_rfl
theorem ynj:tLd Tryz.prog 158=some none:=by kernel_rfl
theorem ygq:tLd Tryz.prog 22=some none:=by kernel_rfl
theorem ygr:tLd Tryz.prog 23=some none:=by kernel_rfl
theorem ygs:tLd Tryz.prog 25=some (some 4):=by kernel_rfl
theorem ygt:tLd Tryz.prog 26=some none:=by kernel_rfl
theorem xyt:tLd Tryz.prog 3=some none:=by kernel_rfl
theorem xyu:tLd Tryz.prog 4=some none:=by kernel_rfl
theorem ygu:tLd Tryz.prog 70=some none:=by kernel_rfl
theorem ygv:tLd Tryz.prog 84=some none:=by kernel_rfl
theorem ygw:tLd Tryz.prog 88=some none:=by kernel_rfl
theorem xyv:tLd Tryz.prog 9=some none:=by kernel_rfl
theorem yu0:zf8 Tryz.prog 115=some 3:=by kernel_rfl
theorem yu1:zf8 Tryz.prog 139=some 3:=by kernel_rfl
theorem yu2:zf8 Tryz.prog 142=some 3:=by kernel_rfl
theorem yu3:zf8 Tryz.prog 144=some 1:=by kernel_rfl
theorem yu4:zf8 Tryz.prog 145=some 3:=by kernel_rfl
theorem yu5:zf8 Tryz.prog 160=some 3:=by kernel_rfl
theorem yu6:zf8 Tryz.prog 166=some 1:=by kernel_rfl
theorem ynk:zf8 Tryz.prog 22=some 3:=by kernel_rfl
theorem ynl:zf8 Tryz.prog 23=some 3:=by kernel_rfl
theorem ynm:zf8 Tryz.prog 26=some 3:=by kernel_rfl
theorem ynn:zf8 Tryz.prog 65=some 3:=by kernel_rfl
theorem ygx:zf8 Tryz.prog 9=some 0:=by kernel_rfl
theorem yu7:zf2 Tryz.prog 138=some (101,(some (.int (.i64) 0))):=by kernel_rfl
theorem yu8:zf2 Tryz.prog 141=some (112,(some (.int (.i64) 0))):=by kernel_rfl
theorem yu9:zf2 Tryz.prog 144=some (9,(some (.int (.i64) 0))):=by kernel_rfl
theorem yta:zf2 Tryz.prog 158=some (3,(some (.int (.i64) 0))):=by kernel_rfl
theorem ytb:zf2 Tryz.prog 159=some (133,(some (.int (.i64) 0))):=by kernel_rfl
theorem ytc:zf2 Tryz.prog 166=some (153,(some (.int (.i64) 0))):=by kernel_rfl
theorem yno:tSl Tryz.prog 115=some ⟨23,1,24,(.f (.raw (.slice none 0 0)))⟩:=by kernel_rfl
theorem ynp:tSl Tryz.prog 133=none:=by kernel_rfl
theorem ynq:tSl Tryz.prog 139=some ⟨101,2,24,(.agg [(.f (.raw (.int (.i64) 0))),(.f (.raw (.string (.mk ⟨[]⟩))))])⟩:=by kernel_rfl
theorem ynr:tSl Tryz.prog 142=some ⟨112,2,24,(.agg [(.f (.raw (.bool false))),(.f (.raw (.string (.mk ⟨[]⟩))))])⟩:=by kernel_rfl
theorem yns:tSl Tryz.prog 145=some ⟨9,1,16,(.f (.raw (.string (.mk ⟨[]⟩))))⟩:=by kernel_rfl
theorem ynt:tSl Tryz.prog 155=some ⟨5,1,1,(.f (.raw (.int (.u8) 0)))⟩:=by kernel_rfl
theorem ynu:tSl Tryz.prog 160=some ⟨133,2,16,(.agg [(.f (.raw (.int (.i64) 0))),(.f (.raw (.int (.i64) 0)))])⟩:=by kernel_rfl
theorem ynv:tSl Tryz.prog 187=none:=by kernel_rfl
theorem ynw:tSl Tryz.prog 197=none:=by kernel_rfl
theorem ygy:tSl Tryz.prog 22=some ⟨4,1,1,(.f (.raw (.bool false)))⟩:=by kernel_rfl
theorem ygz:tSl Tryz.prog 23=some ⟨26,1,24,(.f (.raw (.slice none 0 0)))⟩:=by kernel_rfl
theorem yg0:tSl Tryz.prog 26=some ⟨3,1,8,(.f (.raw (.int (.i64) 0)))⟩:=by kernel_rfl
theorem yg1:tSl Tryz.prog 65=some ⟨25,4,64,(.agg [(.f (.raw (.int (.i64) 0))),(.f (.raw (.int (.i64) 0))),(.f (.raw (.slice none 0 0))),(.f (.raw (.slice none 0 0)))])⟩:=by kernel_rfl
theorem yg2:tSl Tryz.prog 84=some ⟨22,1,24,(.f (.raw (.slice none 0 0)))⟩:=by kernel_rfl
theorem zij:yw9 Tryz.prog 147 176=false:=by kernel_rfl
theorem zdf:yw9 Tryz.prog 155 9=true:=by kernel_rfl
theorem zdg:yw9 Tryz.prog 178 3=false:=by kernel_rfl
theorem zdh:yw9 Tryz.prog 178 5=false:=by kernel_rfl
theorem zdi:yw9 Tryz.prog 2 178=false:=by kernel_rfl
theorem zdj:yw9 Tryz.prog 3 147=false:=by kernel_rfl
theorem zdk:yw9 Tryz.prog 3 178=false:=by kernel_rfl
theorem ytd:yw9 Tryz.prog 3 5=false:=by kernel_rfl
theorem yte:yw9 Tryz.prog 5 3=false:=by kernel_rfl
theorem zaw:zxa Tryz.prog 101=some (.agg ⟨[(.int (.i64) 0),(.string (.mk ⟨[]⟩))]⟩):=by kernel_rfl
theorem zax:zxa Tryz.prog 103=some (.nilFunc):=by kernel_rfl
theorem zay:zxa Tryz.prog 112=some (.agg ⟨[(.bool false),(.string (.mk ⟨[]⟩))]⟩):=by kernel_rfl
theorem zaz:zxa Tryz.prog 115=some (.slice none 0 0):=by kernel_rfl
theorem za0:zxa Tryz.prog 128=some (.nilFunc):=by kernel_rfl
theorem za1:zxa Tryz.prog 129=some (.nilFunc):=by kernel_rfl
theorem za2:zxa Tryz.prog 130=some (.agg ⟨[(.nilFunc),(.nilFunc),(.nilFunc),(.nilFunc),(.nilFunc)]⟩):=by kernel_rfl
theorem za3:zxa Tryz.prog 133=some (.agg ⟨[(.int (.i64) 0),(.int (.i64) 0)]⟩):=by kernel_rfl
theorem za4:zxa Tryz.prog 153=some (.agg ⟨[(.bool false),(.bool false)]⟩):=by kernel_rfl
theorem za5:zxa Tryz.prog 158=some (.map none):=by kernel_rfl
theorem za6:zxa Tryz.prog 187=some (.agg ⟨[(.int (.u8) 0),(.int (.u8) 0),(.int (.u8) 0),(.int (.u8) 0),(.int (.u8) 0),(.int (.u8) 0),(.int (.u8) 0),(.int (.u8) 0),(.int (.u8) 0),(.int (.u8) 0),(.int (.u8) 0),(.int (.u8) 0),(.int (.u8) 0),(.int (.u8) 0),(.int (.u8) 0),(.int (.u8) 0),(.int (.u8) 0),(.int (.u8) 0),(.int (.u8) 0),(.int (.u8) 0),(.int (.u8) 0),(.int (.u8) 0),(.int (.u8) 0),(.int (.u8) 0)]⟩):=by kernel_rfl
theorem zzh:zxa Tryz.prog 197=some (.agg ⟨[(.int (.u8) 0),(.int (.u8) 0),(.int (.u8) 0),(.int (.u8) 0),(.int (.u8) 0),(.int (.u8) 0),(.int (.u8) 0),(.int (.u8) 0),(.int (.u8) 0),(.int (.u8) 0),(.int (.u8) 0),(.int (.u8) 0),(.int (.u8) 0),(.int (.u8) 0),(.int (.u8) 0),(.int (.u8) 0),(.int (.u8) 0),(.int (.u8) 0),(.int (.u8) 0),(.int (.u8) 0),(.int (.u8) 0),(.int (.u8) 0),(.int (.u8) 0),(.int (.u8) 0),(.int (.u8) 0),(.int (.u8) 0),(.int (.u8) 0),(.int (.u8) 0),(.int (.u8) 0),(.int (.u8) 0),(.int (.u8) 0),(.int (.u8) 0),(.int (.u8) 0),(.int (.u8) 0),(.int (.u8) 0),(.int (.u8) 0),(.int (.u8) 0),(.int (.u8) 0),(.int (.u8) 0),(.int (.u8) 0),(.int (.u8) 0),(.int (.u8) 0),(.int (.u8) 0),(.int (.u8) 0),(.int (.u8) 0),(.int (.u8) 0),(.int (.u8) 0),(.int (.u8) 0),(.int (.u8) 0),(.int (.u8) 0),(.int (.u8) 0),(.int (.u8) 0),(.int (.u8) 0),(.int (.u8) 0),(.int (.u8) 0),(.int (.u8) 0),(.int (.u8) 0),(.int (.u8) 0),(.int (.u8) 0),(.int (.u8) 0),(.int (.u8) 0),(.int (.u8) 0),(.int (.u8) 0),(.int (.u8) 0),(.int (.u8) 0)]⟩):=by kernel_rfl
theorem ytf:zxa Tryz.prog 22=some (.slice none 0 0):=by kernel_rfl
theorem ytg:zxa Tryz.prog 23=some (.slice none 0 0):=by kernel_rfl
theorem yth:zxa Tryz.prog 25=some (.agg ⟨[(.int (.i64) 0),(.int (.i64) 0),(.slice none 0 0),(.slice none 0 0)]⟩):=by kernel_rfl
theorem yti:zxa Tryz.prog 26=some (.slice none 0 0):=by kernel_rfl
theorem ynx:zxa Tryz.prog 3=some (.int (.i64) 0):=by kernel_rfl
theorem ytj:zxa Tryz.prog 70=some (.pointer none):=by kernel_rfl
theorem ytk:zxa Tryz.prog 84=some (.slice none 0 0):=by kernel_rfl
theorem ytl:zxa Tryz.prog 88=some (.nilFunc):=by kernel_rfl
attribute [simp] Q_P ze6 ze7 ze8 ze9 zda zb9 zaa zab zac yuh zad zae zaf zag zah zai zaj zak zal zam yui yuj yuk yul yo0 yo1 yo2 yum yun yuo yup yuq yur yus yut yuu yuv yuw yo3 yo4 yo5 yo6 yo7 ygn yo8 yo9 yux yuy yuz ygo ygp zdb zdc zdd zde zan zao zap zaq zar zas zat zau zav yna ynb ync ynd yne ynf yng ynh yni ynj ygq ygr ygs ygt xyt xyu ygu ygv ygw xyv yu0 yu1 yu2 yu3 yu4 yu5 yu6 ynk ynl ynm ynn ygx yu7 yu8 yu9 yta ytb ytc yno ynp ynq ynr yns ynt ynu ynv ynw ygy ygz yg0 yg1 yg2 zij zdf zdg zdh zdi zdj zdk ytd yte zaw zax zay zaz za0 za1 za2 za3 za4 za5 za6 ytf ytg yth yti ynx ytj ytk ytl Int.ofNat_inj Int.ofNat_lt Int.ofNat_le
end Go.Dv
