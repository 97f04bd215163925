/- Further functions: what they answer, and what that means. -/
import Derived.Test.YtjkmcceipabejaaGreatDoorO
set_option linter.unusedSimpArgs false
set_option linter.unusedVariables false
set_option linter.unusedSectionVars false
namespace Go.Proofs.Ae
open Go Go.RowKit
def c7t2 : CCode := (.seq (.reg [⟨some 5, (.mov (.const .nilp)), none⟩]) (.seq (.reg [⟨some 38, (.mov (.tmp 5)), none⟩, ⟨some 39, (.call (.fn 15) [(.tmp 38), (.const (.str [102]))]), none⟩, ⟨some 37, (.mov (.tmp 39)), none⟩, ⟨some 40, (.extr (.tmp 37) 0), none⟩, ⟨some 41, (.extr (.tmp 37) 1), none⟩, ⟨some 6, (.alloc [(.str []), (.slc .full []), (.int .i64 0), (.slc .full []), (.int .i64 0), (.int .i64 0), (.int .i64 0), (.slc .full [])]), none⟩, ⟨none, (.store 8 (.tmp 6) (.tmp 40)), none⟩, ⟨some 7, (.mov (.tmp 41)), none⟩]) (.seq (.reg [⟨some 43, (.mov (.tmp 5)), none⟩, ⟨some 44, (.build [(.slc .full []), (.int .i64 0), (.slc .full []), (.int .i64 0), (.int .i64 0), (.int .i64 0), (.slc .full [])] []), none⟩, ⟨some 45, (.call (.fn 24) [(.tmp 43), (.tmp 44)]), none⟩, ⟨some 42, (.mov (.tmp 45)), none⟩, ⟨some 46, (.extr (.tmp 42) 0), none⟩, ⟨some 47, (.extr (.tmp 42) 1), none⟩, ⟨some 8, (.alloc [(.slc .full []), (.int .i64 0), (.slc .full []), (.int .i64 0), (.int .i64 0), (.int .i64 0), (.slc .full [])]), none⟩, ⟨none, (.store 7 (.tmp 8) (.tmp 46)), none⟩, ⟨some 9, (.mov (.tmp 47)), none⟩]) (.seq (.reg [⟨some 49, (.mov (.tmp 5)), none⟩, ⟨some 50, (.call (.fn 18) [(.tmp 49)]), none⟩, ⟨some 48, (.mov (.tmp 50)), none⟩, ⟨some 51, (.extr (.tmp 48) 0), none⟩, ⟨some 52, (.extr (.tmp 48) 1), none⟩, ⟨some 10, (.mov (.tmp 51)), none⟩, ⟨some 11, (.mov (.tmp 52)), none⟩]) (.seq (.seq (.reg [⟨some 53, (.mov (.tmp 7)), none⟩, ⟨some 54, (.mov (.tmp 53)), none⟩, ⟨some 55, (.mov (.tmp 9)), some (54, false)⟩, ⟨some 56, (.bin .neq (.tmp 55) (.const (.int .i64 1))), some (54, false)⟩, ⟨some 57, (.pick (.tmp 54) (.const (.bool true)) (.tmp 56)), none⟩, ⟨some 58, (.mov (.tmp 57)), none⟩, ⟨some 59, (.mov (.tmp 10)), some (58, false)⟩, ⟨some 60, (.bin .neq (.tmp 59) (.const (.str []))), some (58, false)⟩, ⟨some 61, (.pick (.tmp 58) (.const (.bool true)) (.tmp 60)), none⟩, ⟨some 62, (.mov (.tmp 61)), none⟩, ⟨some 63, (.mov (.tmp 11)), some (62, false)⟩, ⟨some 64, (.bin .neq (.tmp 63) (.const (.int .i64 1))), some (62, false)⟩, ⟨some 65, (.pick (.tmp 62) (.const (.bool true)) (.tmp 64)), none⟩, ⟨some 66, (.mov (.tmp 65)), none⟩, ⟨some 67, (.mov (.tmp 5)), some (66, false)⟩, ⟨some 68, (.load (.ag 8) (.tmp 3)), some (66, false)⟩, ⟨some 69, (.call (.fn 13) [(.tmp 68)]), some (66, false)⟩, ⟨some 70, (.call (.fn 12) [(.tmp 67), (.tmp 69)]), some (66, false)⟩, ⟨some 71, (.bin .neq (.tmp 70) (.const (.int .i64 1))), some (66, false)⟩, ⟨some 72, (.pick (.tmp 66) (.const (.bool true)) (.tmp 71)), none⟩, ⟨some 73, (.mov (.tmp 72)), none⟩, ⟨some 74, (.mov (.tmp 5)), some (73, false)⟩, ⟨some 75, (.call (.fn 28) [(.tmp 74)]), some (73, false)⟩, ⟨some 76, (.len 1 (.tmp 75)), some (73, false)⟩, ⟨some 77, (.bin .neq (.tmp 76) (.const (.int .i64 0))), some (73, false)⟩, ⟨some 78, (.pick (.tmp 73) (.const (.bool true)) (.tmp 77)), none⟩, ⟨some 79, (.mov (.tmp 78)), none⟩, ⟨some 80, (.mov (.tmp 5)), some (79, false)⟩, ⟨some 81, (.build [(.slc .full []), (.int .i64 0), (.slc .full []), (.int .i64 0), (.int .i64 0), (.int .i64 0), (.slc .full [])] []), some (79, false)⟩, ⟨some 82, (.call (.fn 26) [(.tmp 80), (.tmp 81)]), some (79, false)⟩, ⟨some 83, (.len 1 (.tmp 82)), some (79, false)⟩, ⟨some 84, (.bin .neq (.tmp 83) (.const (.int .i64 0))), some (79, false)⟩, ⟨some 85, (.pick (.tmp 79) (.const (.bool true)) (.tmp 84)), none⟩, ⟨some 86, (.mov (.tmp 85)), none⟩, ⟨some 87, (.mov (.tmp 5)), some (86, false)⟩, ⟨some 88, (.call (.fn 29) [(.tmp 87)]), some (86, false)⟩, ⟨some 89, (.isnil 4 true (.tmp 88)), some (86, false)⟩, ⟨some 90, (.pick (.tmp 86) (.const (.bool true)) (.tmp 89)), none⟩, ⟨some 91, (.mov (.tmp 90)), none⟩, ⟨some 92, (.mov (.tmp 5)), some (91, false)⟩, ⟨some 93, (.call (.fn 22) [(.tmp 92), (.const .nilp)]), some (91, false)⟩, ⟨some 94, (.un .not (.tmp 93)), some (91, false)⟩, ⟨some 95, (.pick (.tmp 91) (.const (.bool true)) (.tmp 94)), none⟩]) (.cond (.tmp 95) (.seq (.reg [⟨some 4, (.mov (.const (.bool false))), none⟩]) .ret) .skip)) (.seq (.reg [⟨some 97, (.mov (.tmp 0)), none⟩, ⟨some 98, (.call (.fn 17) [(.tmp 97)]), none⟩, ⟨some 96, (.mov (.tmp 98)), none⟩, ⟨some 99, (.extr (.tmp 96) 0), none⟩, ⟨some 100, (.extr (.tmp 96) 1), none⟩, ⟨some 12, (.mov (.tmp 99)), none⟩, ⟨some 13, (.mov (.tmp 100)), none⟩]) (.seq (.reg [⟨some 101, (.mov (.tmp 12)), none⟩, ⟨some 102, (.call (.fn 29) [(.tmp 101)]), none⟩, ⟨some 14, (.mov (.tmp 102)), none⟩]) (.seq (.seq (.reg [⟨some 103, (.mov (.tmp 14)), none⟩, ⟨some 104, (.isnil 4 false (.tmp 103)), none⟩, ⟨some 105, (.mov (.tmp 104)), none⟩, ⟨some 106, (.mov (.tmp 14)), some (105, false)⟩, ⟨some 107, (.mov (.tmp 12)), some (105, false)⟩, ⟨some 108, (.call (.fn 22) [(.tmp 106), (.tmp 107)]), some (105, false)⟩, ⟨some 109, (.un .not (.tmp 108)), some (105, false)⟩, ⟨some 110, (.pick (.tmp 105) (.const (.bool true)) (.tmp 109)), none⟩, ⟨some 111, (.mov (.tmp 110)), none⟩, ⟨some 112, (.mov (.tmp 12)), some (111, false)⟩, ⟨some 113, (.call (.fn 22) [(.tmp 112), (.const .nilp)]), some (111, false)⟩, ⟨some 114, (.pick (.tmp 111) (.const (.bool true)) (.tmp 113)), none⟩, ⟨some 115, (.mov (.tmp 114)), none⟩, ⟨some 116, (.mov (.tmp 5)), some (115, false)⟩, ⟨some 117, (.mov (.tmp 12)), some (115, false)⟩, ⟨some 118, (.call (.fn 22) [(.tmp 116), (.tmp 117)]), some (115, false)⟩, ⟨some 119, (.pick (.tmp 115) (.const (.bool true)) (.tmp 118)), none⟩]) (.cond (.tmp 119) (.seq (.reg [⟨some 4, (.mov (.const (.bool false))), none⟩]) .ret) .skip)) (.seq (.reg [⟨some 120, (.load (.ag 8) (.tmp 3)), none⟩, ⟨some 121, (.call (.fn 13) [(.tmp 120)]), none⟩, ⟨some 15, (.alloc [(.str []), (.slc .full []), (.int .i64 0), (.slc .full []), (.int .i64 0), (.int .i64 0), (.int .i64 0), (.slc .full [])]), none⟩, ⟨none, (.store 8 (.tmp 15) (.tmp 121)), none⟩]) (.seq (.reg [⟨some 122, (.mov (.tmp 14)), none⟩, ⟨some 123, (.load (.ag 8) (.tmp 15)), none⟩, ⟨some 124, (.call (.fn 12) [(.tmp 122), (.tmp 123)]), none⟩, ⟨some 16, (.mov (.tmp 124)), none⟩]) (.seq (.seq (.reg [⟨some 125, (.faddr 1 .sc (.tmp 15)), none⟩, ⟨some 126, (.load .sc (.tmp 125)), none⟩, ⟨some 127, (.len 1 (.tmp 126)), none⟩, ⟨some 128, (.bin .gtr (.tmp 127) (.const (.int .i64 0))), none⟩]) (.cond (.tmp 128) (.reg [⟨some 129, (.faddr 1 .sc (.tmp 15)), none⟩, ⟨some 130, (.load .sc (.tmp 129)), none⟩, ⟨some 131, (.iaddrS (.ag 2) (.tmp 130) (.const (.int .i64 0))), none⟩, ⟨some 132, (.faddr 0 .sc (.tmp 131)), none⟩, ⟨none, (.store 1 (.tmp 132) (.const (.str [115, 112, 111, 105, 108, 116]))), none⟩]) .skip)) (.seq (.reg [⟨some 133, (.mov (.tmp 14)), none⟩, ⟨some 134, (.call (.fn 28) [(.tmp 133)]), none⟩, ⟨some 17, (.mov (.tmp 134)), none⟩]) (.seq (.seq (.reg [⟨some 18, (.mov (.const (.int .i64 0))), none⟩]) (.block 0 (.loop ⟨[3, 12, 13, 14, 16, 17, 18], [(18, none)], true⟩ c7b0))) (.seq (.seq (.reg [⟨some 161, (.mov (.tmp 16)), none⟩, ⟨some 162, (.bin .eql (.tmp 161) (.const (.int .i64 0))), none⟩]) (.cond (.tmp 162) (.seq (.drg [⟨⟨some 163, (.bslice 0 34 (.ag 8) (.agg [(.str []), (.slc .full []), (.int .i64 0), (.slc .full []), (.int .i64 0), (.int .i64 0), (.int .i64 0), (.slc .full [])]) []), none⟩, .light 0 0, []⟩, ⟨⟨some 164, (.mov (.tmp 13)), none⟩, .light 0 0, [(13, none)]⟩, ⟨⟨some 165, (.app 34 (.ag 8) 120 (.tmp 163) (.tmp 164)), none⟩, .heavy, [(163, some 0), (164, some 1)]⟩, ⟨⟨some 166, (.load (.ag 8) (.tmp 3)), none⟩, .light 0 1, [(3, none)]⟩, ⟨⟨some 167, (.bslice 1 34 (.ag 8) (.agg [(.str []), (.slc .full []), (.int .i64 0), (.slc .full []), (.int .i64 0), (.int .i64 0), (.int .i64 0), (.slc .full [])]) [(0, (.tmp 166))]), none⟩, .light 0 1, [(166, some 3)]⟩, ⟨⟨some 168, (.app 34 (.ag 8) 120 (.tmp 165) (.tmp 167)), none⟩, .heavy, [(165, some 2), (167, some 4)]⟩, ⟨⟨some 13, (.mov (.tmp 168)), none⟩, .light 2 2, [(168, some 5)]⟩]) (.seq (.reg [⟨some 169, (.mov (.tmp 14)), none⟩, ⟨some 170, (.mov (.tmp 13)), none⟩, ⟨some 171, (.call (.fn 14) [(.tmp 169), (.tmp 170)]), none⟩, ⟨some 172, (.mov (.tmp 171)), none⟩, ⟨some 173, (.mov (.tmp 14)), some (172, true)⟩, ⟨some 174, (.mov (.tmp 12)), some (172, true)⟩, ⟨some 175, (.call (.fn 22) [(.tmp 173), (.tmp 174)]), some (172, true)⟩, ⟨some 176, (.un .not (.tmp 175)), some (172, true)⟩, ⟨some 177, (.pick (.tmp 172) (.tmp 176) (.const (.bool false))), none⟩, ⟨some 178, (.mov (.tmp 177)), none⟩, ⟨some 179, (.mov (.tmp 12)), some (178, true)⟩, ⟨some 180, (.mov (.tmp 13)), some (178, true)⟩, ⟨some 181, (.mov (.tmp 13)), some (178, true)⟩, ⟨some 182, (.len 1 (.tmp 181)), some (178, true)⟩, ⟨some 183, (.bin .sub (.tmp 182) (.const (.int .i64 1))), some (178, true)⟩, ⟨some 184, (.slcV (.ag 8) (.tmp 180) none (some (.tmp 183)) none), some (178, true)⟩, ⟨some 185, (.call (.fn 14) [(.tmp 179), (.tmp 184)]), some (178, true)⟩, ⟨some 186, (.pick (.tmp 178) (.tmp 185) (.const (.bool false))), none⟩, ⟨some 187, (.mov (.tmp 186)), none⟩, ⟨some 188, (.call (.fn 9) []), some (187, true)⟩, ⟨some 189, (.pick (.tmp 187) (.tmp 188) (.const (.bool false))), none⟩, ⟨some 4, (.mov (.tmp 189)), none⟩]) .ret)) .skip)) (.seq (.reg [⟨some 190, (.mov (.tmp 14)), none⟩, ⟨some 191, (.mov (.tmp 13)), none⟩, ⟨some 192, (.call (.fn 14) [(.tmp 190), (.tmp 191)]), none⟩, ⟨some 193, (.mov (.tmp 192)), none⟩, ⟨some 194, (.mov (.tmp 14)), some (193, true)⟩, ⟨some 195, (.mov (.tmp 12)), some (193, true)⟩, ⟨some 196, (.call (.fn 22) [(.tmp 194), (.tmp 195)]), some (193, true)⟩, ⟨some 197, (.pick (.tmp 193) (.tmp 196) (.const (.bool false))), none⟩, ⟨some 198, (.mov (.tmp 197)), none⟩, ⟨some 199, (.call (.fn 9) []), some (198, true)⟩, ⟨some 200, (.pick (.tmp 198) (.tmp 199) (.const (.bool false))), none⟩, ⟨some 4, (.mov (.tmp 200)), none⟩]) .ret)))))))))))))))
def c7t7 : CCode := (.seq (.reg [⟨some 97, (.mov (.tmp 0)), none⟩, ⟨some 98, (.call (.fn 17) [(.tmp 97)]), none⟩, ⟨some 96, (.mov (.tmp 98)), none⟩, ⟨some 99, (.extr (.tmp 96) 0), none⟩, ⟨some 100, (.extr (.tmp 96) 1), none⟩, ⟨some 12, (.mov (.tmp 99)), none⟩, ⟨some 13, (.mov (.tmp 100)), none⟩]) (.seq (.reg [⟨some 101, (.mov (.tmp 12)), none⟩, ⟨some 102, (.call (.fn 29) [(.tmp 101)]), none⟩, ⟨some 14, (.mov (.tmp 102)), none⟩]) (.seq (.seq (.reg [⟨some 103, (.mov (.tmp 14)), none⟩, ⟨some 104, (.isnil 4 false (.tmp 103)), none⟩, ⟨some 105, (.mov (.tmp 104)), none⟩, ⟨some 106, (.mov (.tmp 14)), some (105, false)⟩, ⟨some 107, (.mov (.tmp 12)), some (105, false)⟩, ⟨some 108, (.call (.fn 22) [(.tmp 106), (.tmp 107)]), some (105, false)⟩, ⟨some 109, (.un .not (.tmp 108)), some (105, false)⟩, ⟨some 110, (.pick (.tmp 105) (.const (.bool true)) (.tmp 109)), none⟩, ⟨some 111, (.mov (.tmp 110)), none⟩, ⟨some 112, (.mov (.tmp 12)), some (111, false)⟩, ⟨some 113, (.call (.fn 22) [(.tmp 112), (.const .nilp)]), some (111, false)⟩, ⟨some 114, (.pick (.tmp 111) (.const (.bool true)) (.tmp 113)), none⟩, ⟨some 115, (.mov (.tmp 114)), none⟩, ⟨some 116, (.mov (.tmp 5)), some (115, false)⟩, ⟨some 117, (.mov (.tmp 12)), some (115, false)⟩, ⟨some 118, (.call (.fn 22) [(.tmp 116), (.tmp 117)]), some (115, false)⟩, ⟨some 119, (.pick (.tmp 115) (.const (.bool true)) (.tmp 118)), none⟩]) (.cond (.tmp 119) (.seq (.reg [⟨some 4, (.mov (.const (.bool false))), none⟩]) .ret) .skip)) (.seq (.reg [⟨some 120, (.load (.ag 8) (.tmp 3)), none⟩, ⟨some 121, (.call (.fn 13) [(.tmp 120)]), none⟩, ⟨some 15, (.alloc [(.str []), (.slc .full []), (.int .i64 0), (.slc .full []), (.int .i64 0), (.int .i64 0), (.int .i64 0), (.slc .full [])]), none⟩, ⟨none, (.store 8 (.tmp 15) (.tmp 121)), none⟩]) (.seq (.reg [⟨some 122, (.mov (.tmp 14)), none⟩, ⟨some 123, (.load (.ag 8) (.tmp 15)), none⟩, ⟨some 124, (.call (.fn 12) [(.tmp 122), (.tmp 123)]), none⟩, ⟨some 16, (.mov (.tmp 124)), none⟩]) (.seq (.seq (.reg [⟨some 125, (.faddr 1 .sc (.tmp 15)), none⟩, ⟨some 126, (.load .sc (.tmp 125)), none⟩, ⟨some 127, (.len 1 (.tmp 126)), none⟩, ⟨some 128, (.bin .gtr (.tmp 127) (.const (.int .i64 0))), none⟩]) (.cond (.tmp 128) (.reg [⟨some 129, (.faddr 1 .sc (.tmp 15)), none⟩, ⟨some 130, (.load .sc (.tmp 129)), none⟩, ⟨some 131, (.iaddrS (.ag 2) (.tmp 130) (.const (.int .i64 0))), none⟩, ⟨some 132, (.faddr 0 .sc (.tmp 131)), none⟩, ⟨none, (.store 1 (.tmp 132) (.const (.str [115, 112, 111, 105, 108, 116]))), none⟩]) .skip)) (.seq (.reg [⟨some 133, (.mov (.tmp 14)), none⟩, ⟨some 134, (.call (.fn 28) [(.tmp 133)]), none⟩, ⟨some 17, (.mov (.tmp 134)), none⟩]) (.seq (.seq (.reg [⟨some 18, (.mov (.const (.int .i64 0))), none⟩]) (.block 0 (.loop ⟨[3, 12, 13, 14, 16, 17, 18], [(18, none)], true⟩ c7b0))) (.seq (.seq (.reg [⟨some 161, (.mov (.tmp 16)), none⟩, ⟨some 162, (.bin .eql (.tmp 161) (.const (.int .i64 0))), none⟩]) (.cond (.tmp 162) (.seq (.drg [⟨⟨some 163, (.bslice 0 34 (.ag 8) (.agg [(.str []), (.slc .full []), (.int .i64 0), (.slc .full []), (.int .i64 0), (.int .i64 0), (.int .i64 0), (.slc .full [])]) []), none⟩, .light 0 0, []⟩, ⟨⟨some 164, (.mov (.tmp 13)), none⟩, .light 0 0, [(13, none)]⟩, ⟨⟨some 165, (.app 34 (.ag 8) 120 (.tmp 163) (.tmp 164)), none⟩, .heavy, [(163, some 0), (164, some 1)]⟩, ⟨⟨some 166, (.load (.ag 8) (.tmp 3)), none⟩, .light 0 1, [(3, none)]⟩, ⟨⟨some 167, (.bslice 1 34 (.ag 8) (.agg [(.str []), (.slc .full []), (.int .i64 0), (.slc .full []), (.int .i64 0), (.int .i64 0), (.int .i64 0), (.slc .full [])]) [(0, (.tmp 166))]), none⟩, .light 0 1, [(166, some 3)]⟩, ⟨⟨some 168, (.app 34 (.ag 8) 120 (.tmp 165) (.tmp 167)), none⟩, .heavy, [(165, some 2), (167, some 4)]⟩, ⟨⟨some 13, (.mov (.tmp 168)), none⟩, .light 2 2, [(168, some 5)]⟩]) (.seq (.reg [⟨some 169, (.mov (.tmp 14)), none⟩, ⟨some 170, (.mov (.tmp 13)), none⟩, ⟨some 171, (.call (.fn 14) [(.tmp 169), (.tmp 170)]), none⟩, ⟨some 172, (.mov (.tmp 171)), none⟩, ⟨some 173, (.mov (.tmp 14)), some (172, true)⟩, ⟨some 174, (.mov (.tmp 12)), some (172, true)⟩, ⟨some 175, (.call (.fn 22) [(.tmp 173), (.tmp 174)]), some (172, true)⟩, ⟨some 176, (.un .not (.tmp 175)), some (172, true)⟩, ⟨some 177, (.pick (.tmp 172) (.tmp 176) (.const (.bool false))), none⟩, ⟨some 178, (.mov (.tmp 177)), none⟩, ⟨some 179, (.mov (.tmp 12)), some (178, true)⟩, ⟨some 180, (.mov (.tmp 13)), some (178, true)⟩, ⟨some 181, (.mov (.tmp 13)), some (178, true)⟩, ⟨some 182, (.len 1 (.tmp 181)), some (178, true)⟩, ⟨some 183, (.bin .sub (.tmp 182) (.const (.int .i64 1))), some (178, true)⟩, ⟨some 184, (.slcV (.ag 8) (.tmp 180) none (some (.tmp 183)) none), some (178, true)⟩, ⟨some 185, (.call (.fn 14) [(.tmp 179), (.tmp 184)]), some (178, true)⟩, ⟨some 186, (.pick (.tmp 178) (.tmp 185) (.const (.bool false))), none⟩, ⟨some 187, (.mov (.tmp 186)), none⟩, ⟨some 188, (.call (.fn 9) []), some (187, true)⟩, ⟨some 189, (.pick (.tmp 187) (.tmp 188) (.const (.bool false))), none⟩, ⟨some 4, (.mov (.tmp 189)), none⟩]) .ret)) .skip)) (.seq (.reg [⟨some 190, (.mov (.tmp 14)), none⟩, ⟨some 191, (.mov (.tmp 13)), none⟩, ⟨some 192, (.call (.fn 14) [(.tmp 190), (.tmp 191)]), none⟩, ⟨some 193, (.mov (.tmp 192)), none⟩, ⟨some 194, (.mov (.tmp 14)), some (193, true)⟩, ⟨some 195, (.mov (.tmp 12)), some (193, true)⟩, ⟨some 196, (.call (.fn 22) [(.tmp 194), (.tmp 195)]), some (193, true)⟩, ⟨some 197, (.pick (.tmp 193) (.tmp 196) (.const (.bool false))), none⟩, ⟨some 198, (.mov (.tmp 197)), none⟩, ⟨some 199, (.call (.fn 9) []), some (198, true)⟩, ⟨some 200, (.pick (.tmp 198) (.tmp 199) (.const (.bool false))), none⟩, ⟨some 4, (.mov (.tmp 200)), none⟩]) .ret))))))))))
def c7t10 : CCode := (.seq (.reg [⟨some 120, (.load (.ag 8) (.tmp 3)), none⟩, ⟨some 121, (.call (.fn 13) [(.tmp 120)]), none⟩, ⟨some 15, (.alloc [(.str []), (.slc .full []), (.int .i64 0), (.slc .full []), (.int .i64 0), (.int .i64 0), (.int .i64 0), (.slc .full [])]), none⟩, ⟨none, (.store 8 (.tmp 15) (.tmp 121)), none⟩]) (.seq (.reg [⟨some 122, (.mov (.tmp 14)), none⟩, ⟨some 123, (.load (.ag 8) (.tmp 15)), none⟩, ⟨some 124, (.call (.fn 12) [(.tmp 122), (.tmp 123)]), none⟩, ⟨some 16, (.mov (.tmp 124)), none⟩]) (.seq (.seq (.reg [⟨some 125, (.faddr 1 .sc (.tmp 15)), none⟩, ⟨some 126, (.load .sc (.tmp 125)), none⟩, ⟨some 127, (.len 1 (.tmp 126)), none⟩, ⟨some 128, (.bin .gtr (.tmp 127) (.const (.int .i64 0))), none⟩]) (.cond (.tmp 128) (.reg [⟨some 129, (.faddr 1 .sc (.tmp 15)), none⟩, ⟨some 130, (.load .sc (.tmp 129)), none⟩, ⟨some 131, (.iaddrS (.ag 2) (.tmp 130) (.const (.int .i64 0))), none⟩, ⟨some 132, (.faddr 0 .sc (.tmp 131)), none⟩, ⟨none, (.store 1 (.tmp 132) (.const (.str [115, 112, 111, 105, 108, 116]))), none⟩]) .skip)) (.seq (.reg [⟨some 133, (.mov (.tmp 14)), none⟩, ⟨some 134, (.call (.fn 28) [(.tmp 133)]), none⟩, ⟨some 17, (.mov (.tmp 134)), none⟩]) (.seq (.seq (.reg [⟨some 18, (.mov (.const (.int .i64 0))), none⟩]) (.block 0 (.loop ⟨[3, 12, 13, 14, 16, 17, 18], [(18, none)], true⟩ c7b0))) (.seq (.seq (.reg [⟨some 161, (.mov (.tmp 16)), none⟩, ⟨some 162, (.bin .eql (.tmp 161) (.const (.int .i64 0))), none⟩]) (.cond (.tmp 162) (.seq (.drg [⟨⟨some 163, (.bslice 0 34 (.ag 8) (.agg [(.str []), (.slc .full []), (.int .i64 0), (.slc .full []), (.int .i64 0), (.int .i64 0), (.int .i64 0), (.slc .full [])]) []), none⟩, .light 0 0, []⟩, ⟨⟨some 164, (.mov (.tmp 13)), none⟩, .light 0 0, [(13, none)]⟩, ⟨⟨some 165, (.app 34 (.ag 8) 120 (.tmp 163) (.tmp 164)), none⟩, .heavy, [(163, some 0), (164, some 1)]⟩, ⟨⟨some 166, (.load (.ag 8) (.tmp 3)), none⟩, .light 0 1, [(3, none)]⟩, ⟨⟨some 167, (.bslice 1 34 (.ag 8) (.agg [(.str []), (.slc .full []), (.int .i64 0), (.slc .full []), (.int .i64 0), (.int .i64 0), (.int .i64 0), (.slc .full [])]) [(0, (.tmp 166))]), none⟩, .light 0 1, [(166, some 3)]⟩, ⟨⟨some 168, (.app 34 (.ag 8) 120 (.tmp 165) (.tmp 167)), none⟩, .heavy, [(165, some 2), (167, some 4)]⟩, ⟨⟨some 13, (.mov (.tmp 168)), none⟩, .light 2 2, [(168, some 5)]⟩]) (.seq (.reg [⟨some 169, (.mov (.tmp 14)), none⟩, ⟨some 170, (.mov (.tmp 13)), none⟩, ⟨some 171, (.call (.fn 14) [(.tmp 169), (.tmp 170)]), none⟩, ⟨some 172, (.mov (.tmp 171)), none⟩, ⟨some 173, (.mov (.tmp 14)), some (172, true)⟩, ⟨some 174, (.mov (.tmp 12)), some (172, true)⟩, ⟨some 175, (.call (.fn 22) [(.tmp 173), (.tmp 174)]), some (172, true)⟩, ⟨some 176, (.un .not (.tmp 175)), some (172, true)⟩, ⟨some 177, (.pick (.tmp 172) (.tmp 176) (.const (.bool false))), none⟩, ⟨some 178, (.mov (.tmp 177)), none⟩, ⟨some 179, (.mov (.tmp 12)), some (178, true)⟩, ⟨some 180, (.mov (.tmp 13)), some (178, true)⟩, ⟨some 181, (.mov (.tmp 13)), some (178, true)⟩, ⟨some 182, (.len 1 (.tmp 181)), some (178, true)⟩, ⟨some 183, (.bin .sub (.tmp 182) (.const (.int .i64 1))), some (178, true)⟩, ⟨some 184, (.slcV (.ag 8) (.tmp 180) none (some (.tmp 183)) none), some (178, true)⟩, ⟨some 185, (.call (.fn 14) [(.tmp 179), (.tmp 184)]), some (178, true)⟩, ⟨some 186, (.pick (.tmp 178) (.tmp 185) (.const (.bool false))), none⟩, ⟨some 187, (.mov (.tmp 186)), none⟩, ⟨some 188, (.call (.fn 9) []), some (187, true)⟩, ⟨some 189, (.pick (.tmp 187) (.tmp 188) (.const (.bool false))), none⟩, ⟨some 4, (.mov (.tmp 189)), none⟩]) .ret)) .skip)) (.seq (.reg [⟨some 190, (.mov (.tmp 14)), none⟩, ⟨some 191, (.mov (.tmp 13)), none⟩, ⟨some 192, (.call (.fn 14) [(.tmp 190), (.tmp 191)]), none⟩, ⟨some 193, (.mov (.tmp 192)), none⟩, ⟨some 194, (.mov (.tmp 14)), some (193, true)⟩, ⟨some 195, (.mov (.tmp 12)), some (193, true)⟩, ⟨some 196, (.call (.fn 22) [(.tmp 194), (.tmp 195)]), some (193, true)⟩, ⟨some 197, (.pick (.tmp 193) (.tmp 196) (.const (.bool false))), none⟩, ⟨some 198, (.mov (.tmp 197)), none⟩, ⟨some 199, (.call (.fn 9) []), some (198, true)⟩, ⟨some 200, (.pick (.tmp 198) (.tmp 199) (.const (.bool false))), none⟩, ⟨some 4, (.mov (.tmp 200)), none⟩]) .ret)))))))
def c7t13 : CCode := (.seq (.reg [⟨some 133, (.mov (.tmp 14)), none⟩, ⟨some 134, (.call (.fn 28) [(.tmp 133)]), none⟩, ⟨some 17, (.mov (.tmp 134)), none⟩]) (.seq (.seq (.reg [⟨some 18, (.mov (.const (.int .i64 0))), none⟩]) (.block 0 (.loop ⟨[3, 12, 13, 14, 16, 17, 18], [(18, none)], true⟩ c7b0))) (.seq (.seq (.reg [⟨some 161, (.mov (.tmp 16)), none⟩, ⟨some 162, (.bin .eql (.tmp 161) (.const (.int .i64 0))), none⟩]) (.cond (.tmp 162) (.seq (.drg [⟨⟨some 163, (.bslice 0 34 (.ag 8) (.agg [(.str []), (.slc .full []), (.int .i64 0), (.slc .full []), (.int .i64 0), (.int .i64 0), (.int .i64 0), (.slc .full [])]) []), none⟩, .light 0 0, []⟩, ⟨⟨some 164, (.mov (.tmp 13)), none⟩, .light 0 0, [(13, none)]⟩, ⟨⟨some 165, (.app 34 (.ag 8) 120 (.tmp 163) (.tmp 164)), none⟩, .heavy, [(163, some 0), (164, some 1)]⟩, ⟨⟨some 166, (.load (.ag 8) (.tmp 3)), none⟩, .light 0 1, [(3, none)]⟩, ⟨⟨some 167, (.bslice 1 34 (.ag 8) (.agg [(.str []), (.slc .full []), (.int .i64 0), (.slc .full []), (.int .i64 0), (.int .i64 0), (.int .i64 0), (.slc .full [])]) [(0, (.tmp 166))]), none⟩, .light 0 1, [(166, some 3)]⟩, ⟨⟨some 168, (.app 34 (.ag 8) 120 (.tmp 165) (.tmp 167)), none⟩, .heavy, [(165, some 2), (167, some 4)]⟩, ⟨⟨some 13, (.mov (.tmp 168)), none⟩, .light 2 2, [(168, some 5)]⟩]) (.seq (.reg [⟨some 169, (.mov (.tmp 14)), none⟩, ⟨some 170, (.mov (.tmp 13)), none⟩, ⟨some 171, (.call (.fn 14) [(.tmp 169), (.tmp 170)]), none⟩, ⟨some 172, (.mov (.tmp 171)), none⟩, ⟨some 173, (.mov (.tmp 14)), some (172, true)⟩, ⟨some 174, (.mov (.tmp 12)), some (172, true)⟩, ⟨some 175, (.call (.fn 22) [(.tmp 173), (.tmp 174)]), some (172, true)⟩, ⟨some 176, (.un .not (.tmp 175)), some (172, true)⟩, ⟨some 177, (.pick (.tmp 172) (.tmp 176) (.const (.bool false))), none⟩, ⟨some 178, (.mov (.tmp 177)), none⟩, ⟨some 179, (.mov (.tmp 12)), some (178, true)⟩, ⟨some 180, (.mov (.tmp 13)), some (178, true)⟩, ⟨some 181, (.mov (.tmp 13)), some (178, true)⟩, ⟨some 182, (.len 1 (.tmp 181)), some (178, true)⟩, ⟨some 183, (.bin .sub (.tmp 182) (.const (.int .i64 1))), some (178, true)⟩, ⟨some 184, (.slcV (.ag 8) (.tmp 180) none (some (.tmp 183)) none), some (178, true)⟩, ⟨some 185, (.call (.fn 14) [(.tmp 179), (.tmp 184)]), some (178, true)⟩, ⟨some 186, (.pick (.tmp 178) (.tmp 185) (.const (.bool false))), none⟩, ⟨some 187, (.mov (.tmp 186)), none⟩, ⟨some 188, (.call (.fn 9) []), some (187, true)⟩, ⟨some 189, (.pick (.tmp 187) (.tmp 188) (.const (.bool false))), none⟩, ⟨some 4, (.mov (.tmp 189)), none⟩]) .ret)) .skip)) (.seq (.reg [⟨some 190, (.mov (.tmp 14)), none⟩, ⟨some 191, (.mov (.tmp 13)), none⟩, ⟨some 192, (.call (.fn 14) [(.tmp 190), (.tmp 191)]), none⟩, ⟨some 193, (.mov (.tmp 192)), none⟩, ⟨some 194, (.mov (.tmp 14)), some (193, true)⟩, ⟨some 195, (.mov (.tmp 12)), some (193, true)⟩, ⟨some 196, (.call (.fn 22) [(.tmp 194), (.tmp 195)]), some (193, true)⟩, ⟨some 197, (.pick (.tmp 193) (.tmp 196) (.const (.bool false))), none⟩, ⟨some 198, (.mov (.tmp 197)), none⟩, ⟨some 199, (.call (.fn 9) []), some (198, true)⟩, ⟨some 200, (.pick (.tmp 198) (.tmp 199) (.const (.bool false))), none⟩, ⟨some 4, (.mov (.tmp 200)), none⟩]) .ret))))
def c7t15 : CCode := (.seq (.seq (.reg [⟨some 161, (.mov (.tmp 16)), none⟩, ⟨some 162, (.bin .eql (.tmp 161) (.const (.int .i64 0))), none⟩]) (.cond (.tmp 162) (.seq (.drg [⟨⟨some 163, (.bslice 0 34 (.ag 8) (.agg [(.str []), (.slc .full []), (.int .i64 0), (.slc .full []), (.int .i64 0), (.int .i64 0), (.int .i64 0), (.slc .full [])]) []), none⟩, .light 0 0, []⟩, ⟨⟨some 164, (.mov (.tmp 13)), none⟩, .light 0 0, [(13, none)]⟩, ⟨⟨some 165, (.app 34 (.ag 8) 120 (.tmp 163) (.tmp 164)), none⟩, .heavy, [(163, some 0), (164, some 1)]⟩, ⟨⟨some 166, (.load (.ag 8) (.tmp 3)), none⟩, .light 0 1, [(3, none)]⟩, ⟨⟨some 167, (.bslice 1 34 (.ag 8) (.agg [(.str []), (.slc .full []), (.int .i64 0), (.slc .full []), (.int .i64 0), (.int .i64 0), (.int .i64 0), (.slc .full [])]) [(0, (.tmp 166))]), none⟩, .light 0 1, [(166, some 3)]⟩, ⟨⟨some 168, (.app 34 (.ag 8) 120 (.tmp 165) (.tmp 167)), none⟩, .heavy, [(165, some 2), (167, some 4)]⟩, ⟨⟨some 13, (.mov (.tmp 168)), none⟩, .light 2 2, [(168, some 5)]⟩]) (.seq (.reg [⟨some 169, (.mov (.tmp 14)), none⟩, ⟨some 170, (.mov (.tmp 13)), none⟩, ⟨some 171, (.call (.fn 14) [(.tmp 169), (.tmp 170)]), none⟩, ⟨some 172, (.mov (.tmp 171)), none⟩, ⟨some 173, (.mov (.tmp 14)), some (172, true)⟩, ⟨some 174, (.mov (.tmp 12)), some (172, true)⟩, ⟨some 175, (.call (.fn 22) [(.tmp 173), (.tmp 174)]), some (172, true)⟩, ⟨some 176, (.un .not (.tmp 175)), some (172, true)⟩, ⟨some 177, (.pick (.tmp 172) (.tmp 176) (.const (.bool false))), none⟩, ⟨some 178, (.mov (.tmp 177)), none⟩, ⟨some 179, (.mov (.tmp 12)), some (178, true)⟩, ⟨some 180, (.mov (.tmp 13)), some (178, true)⟩, ⟨some 181, (.mov (.tmp 13)), some (178, true)⟩, ⟨some 182, (.len 1 (.tmp 181)), some (178, true)⟩, ⟨some 183, (.bin .sub (.tmp 182) (.const (.int .i64 1))), some (178, true)⟩, ⟨some 184, (.slcV (.ag 8) (.tmp 180) none (some (.tmp 183)) none), some (178, true)⟩, ⟨some 185, (.call (.fn 14) [(.tmp 179), (.tmp 184)]), some (178, true)⟩, ⟨some 186, (.pick (.tmp 178) (.tmp 185) (.const (.bool false))), none⟩, ⟨some 187, (.mov (.tmp 186)), none⟩, ⟨some 188, (.call (.fn 9) []), some (187, true)⟩, ⟨some 189, (.pick (.tmp 187) (.tmp 188) (.const (.bool false))), none⟩, ⟨some 4, (.mov (.tmp 189)), none⟩]) .ret)) .skip)) (.seq (.reg [⟨some 190, (.mov (.tmp 14)), none⟩, ⟨some 191, (.mov (.tmp 13)), none⟩, ⟨some 192, (.call (.fn 14) [(.tmp 190), (.tmp 191)]), none⟩, ⟨some 193, (.mov (.tmp 192)), none⟩, ⟨some 194, (.mov (.tmp 14)), some (193, true)⟩, ⟨some 195, (.mov (.tmp 12)), some (193, true)⟩, ⟨some 196, (.call (.fn 22) [(.tmp 194), (.tmp 195)]), some (193, true)⟩, ⟨some 197, (.pick (.tmp 193) (.tmp 196) (.const (.bool false))), none⟩, ⟨some 198, (.mov (.tmp 197)), none⟩, ⟨some 199, (.call (.fn 9) []), some (198, true)⟩, ⟨some 200, (.pick (.tmp 198) (.tmp 199) (.const (.bool false))), none⟩, ⟨some 4, (.mov (.tmp 200)), none⟩]) .ret))
structure Cs7 (cl : Caller) (l : List Mc) (m : Mc) : Prop where
  h8 : ∀ M, cl 8 [.slc .shared (l.map mcv)] M = some (.bool (sme l), M)
  h23 : ∃ b, ∀ M, cl 23 [av m.bd] M = some (.bool b, M)
  h9 : ∀ M, cl 9 [] M = some (.bool true, M)
  a15 : ∀ x O R, Gr (cl 15 [.nilp, .str x] ⟨O, R⟩) (.tup [mc0, .bool false]) O R
  a24 : ∀ O R, Gr (cl 24 [.nilp, q0V] ⟨O, R⟩) (.tup [q0V, .int .i64 1]) O R
  a18 : ∀ M, cl 18 [.nilp] M = some (.tup [.str [], .int .i64 1], M)
  a12 : ∀ P O R, Gr (cl 12 [.nilp, .agg (mco m P)] ⟨O, R⟩) (.int .i64 1) O R
  a28 : ∀ M, cl 28 [.nilp] M = some (.slc .full [], M)
  a26 : ∀ O R, Gr (cl 26 [.nilp, q0V] ⟨O, R⟩) (.slc .full []) O R
  a29 : ∀ M, cl 29 [.nilp] M = some (.nilp, M)
  a22 : ∀ M, cl 22 [.nilp, .nilp] M = some (.bool true, M)
  p22 : ∀ i M, cl 22 [.ptr i 0, .nilp] M = some (.bool false, M)
  n22 : ∀ i M, cl 22 [.nilp, .ptr i 0] M = some (.bool false, M)
  h13 : ∀ O R, ∃ X Y P, cl 13 [mcv m] ⟨O, R⟩ = some (.agg (mco m P), ⟨O ++ X, R ++ Y⟩) ∧ PRowF R.length (R ++ Y) P m.ps
  h17 : l.length ≤ 5 → ∀ O R, ∃ X Y a w, cl 17 [.slc .shared (l.map mcv)] ⟨O, R⟩ = some (.tup [.ptr O.length 0, .slc (.own R.length) (w.map mcv)], ⟨O ++ X, R ++ Y⟩) ∧ SetAt (O ++ X) (R ++ Y) O.length a w ∧ (∀ b, a = some b → R.length < b) ∧ Gd w
  h29 : ∀ w O R id a, SetAt O R id a w → Gd w → ∃ X Y a', cl 29 [.ptr id 0] ⟨O, R⟩ = some (.ptr O.length 0, ⟨O ++ X, R ++ Y⟩) ∧ SetAt (O ++ X) (R ++ Y) O.length a' w ∧ ∀ b, a' = some b → R.length ≤ b
  e22 : ∀ w O R id1 id2 a1 a2, SetAt O R id1 a1 w → SetAt O R id2 a2 w → Gd w → cl 22 [.ptr id1 0, .ptr id2 0] ⟨O, R⟩ = some (.bool true, ⟨O, R⟩)
  d22 : ∀ w1 w2 O R id1 id2 a1 a2, SetAt O R id1 a1 w1 → SetAt O R id2 a2 w2 → Gd w1 → Gd w2 → w1.length ≠ w2.length → cl 22 [.ptr id1 0, .ptr id2 0] ⟨O, R⟩ = some (.bool false, ⟨O, R⟩)
  h12y : ∀ w O R id a P, SetAt O R id a w → Gd w → m.ps.length ≤ 10 → PRow R P m.ps → may w m = 0 → ∃ O' R' a', cl 12 [.ptr id 0, .agg (mco m P)] ⟨O, R⟩ = some (.int .i64 0, ⟨O', R'⟩) ∧ Added O R id a (w ++ [m]) O' R' a'
  h12n : ∀ w O R id a P, SetAt O R id a w → Gd w → m.ps.length ≤ 10 → PRow R P m.ps → may w m ≠ 0 → Gr (cl 12 [.ptr id 0, .agg (mco m P)] ⟨O, R⟩) (.int .i64 (may w m)) O R
  h28 : ∀ w O R id a, SetAt O R id a w → Gd w → ∃ X Y P, cl 28 [.ptr id 0] ⟨O, R⟩ = some (P, ⟨O ++ X, R ++ Y⟩) ∧ NRowF R.length (R ++ Y) P (w.map Mc.nm)
  h15 : ∀ w O R id a x, SetAt O R id a w → Gd w → match fnd w x with
    | none => Gr (cl 15 [.ptr id 0, .str x] ⟨O, R⟩) (.tup [mc0, .bool false]) O R
    | some d => ∃ X Y P, cl 15 [.ptr id 0, .str x] ⟨O, R⟩ = some (.tup [.agg (mco d P), .bool true], ⟨O ++ X, R ++ Y⟩) ∧ PRowF R.length (R ++ Y) P d.ps
  h14 : ∀ w O R id a sw, SetAt O R id a w → Gd w → sw ≠ .full → Gw (cl 14 [.ptr id 0, .slc sw (w.map mcv)] ⟨O, R⟩) (.bool true) O R
theorem mcc_len (m : Mc) : (mcc m).length = 8 := by rw [mcc_eq]; rfl
theorem mcc_take (m : Mc) : List.take 8 (mcc m) = mcc m := List.take_of_length_le (by rw [mcc_len]; exact Nat.le_refl _)
theorem agg_mcc (m : Mc) : AV.agg (mcc m) = mcv m := rfl
section
variable {G : Nat → Option AV} {cl : Caller} {yl : Nat → List AV → Mem → Option (AV × Mem)} {N : Nat}
theorem evE (l : List Mc) (m : Mc) (hm : OkM m) (h : Cs7 cl l m) {ts : Slots} {O : List Obj} {R : List Arr} {p q r : Nat} {a1 a2 : Option Nat} {w : List Mc} (hg : Gd w)
    (q3 : look 3 ts = .ptr 0 0) (q12 : look 12 ts = .ptr p 0) (q13 : look 13 ts = .slc (.own r) (w.map mcv)) (q14 : look 14 ts = .ptr q 0) (q16 : look 16 ts = .int .i64 (may w m))
    (hO : O[0]? = some (.cells (mcc m))) (h1 : SetAt O R p a1 w) (h2 : SetAt O R q a2 (adl w m)) :
    ∃ ts' M', evalC G false cl yl N c7t15 ⟨ts, ⟨O, R⟩, []⟩ = some (.ret, ⟨ts', M', []⟩) ∧ look 4 ts' = .bool true := by
  have h9 := h.h9
  by_cases hc : may w m = 0
  · rw [adl, if_pos hc] at h2
    rw [hc] at q16
    have hg' := hg.snoc hc hm
    have hq : (w.length + 1) * 120 ≤ 140737488355328 := by have := hg'.len; simp at this; omega
    have hq1 : w.length * 120 ≤ 140737488355328 := by omega
    have hq2 : w.length + 1 ≤ 140737488355328 := by omega
    have hq3 : w.length ≤ 140737488355328 := by omega
    have hz := szOk_mcvL w
    have hz1 := szOk_mcv m []
    obtain ⟨X, Y, k14⟩ := h.h14 (w ++ [m]) O (R ++ [.app (w.length + 1) 34 8]) q a2 (.own R.length) (by simpa using h2.grow [] [.app (w.length + 1) 34 8]) hg' (by simp)
    have s1 : SetAt (O ++ X) (R ++ [.app (w.length + 1) 34 8] ++ Y) p a1 w := by rw [List.append_assoc]; exact h1.grow X _
    have s2 : SetAt (O ++ X) (R ++ [.app (w.length + 1) 34 8] ++ Y) q a2 (w ++ [m]) := by rw [List.append_assoc]; exact h2.grow X _
    have k22 := h.d22 (w ++ [m]) w _ _ q p a2 a1 s2 s1 hg' hg (by simp)
    obtain ⟨X', Y', k14b⟩ := h.h14 w _ _ p a1 .shared s1 hg (by simp)
    have w2 : wrapF .i64 ((w.length : Int) + 1 - 1) = (w.length : Int) := by rw [wrap_id (by omega) (by omega)]; omega
    cases w with
    | nil =>
      have w0 : wrapF .i64 0 = 0 := wrap_id (by omega) (by omega)
      simp -implicitDefEqProofs at k14 k22 k14b
      simp -implicitDefEqProofs [c7t15, q3, q12, q13, q14, q16, hO, hz1, mcc_len, mcc_take, agg_mcc, k14, k22, k14b, w0, h9]
    | cons d w =>
      have tk : List.take w.length (w.map mcv ++ [mcv m]) = w.map mcv := List.take_left' (by simp)
      have hz3 : szOk 8 (mcv d :: (w.map mcv ++ [mcv m])) = true := szOk_mcv d _
      have w3 : (0 : Int) ≤ (w.length : Int) + 1 := by omega
      have w4 : ((w.length : Int) + 1).toNat = w.length + 1 := by omega
      simp -implicitDefEqProofs at k14 k22 k14b hq hq1 hq2 hq3 hz w2
      simp -implicitDefEqProofs [c7t15, q3, q12, q13, q14, q16, hO, hq, hq1, hq2, hq3, hz, hz1, hz3, mcc_len, mcc_take, agg_mcc, k14, k22, k14b, w2, w3, w4, tk, h9]
  · rw [adl, if_neg hc] at h2
    obtain ⟨X, Y, k14⟩ := h.h14 w O R q a2 (.own r) h2 hg (by simp)
    have k22 := h.e22 w (O ++ X) (R ++ Y) q p a2 a1 (h2.grow X Y) (h1.grow X Y) hg
    have hc' : (may w m == 0) = false := by simp [hc]
    simp -implicitDefEqProofs [c7t15, q3, q12, q13, q14, q16, hc', k14, k22, h9]
end
theorem SetAt.old {O O1 : List Obj} {R R1 : List Arr} {id : Nat} {a : Option Nat} {w : List Mc} (h : SetAt O R id a w) (hO : Old O O1) (hR : Old R R1) : SetAt O1 R1 id a w := by
  obtain ⟨X, rfl⟩ := hO.pre
  obtain ⟨Y, rfl⟩ := hR.pre
  exact h.grow X Y
theorem Old.set {α : Type} {l l1 : List α} (h : Old l l1) {a : Nat} (ha : l.length ≤ a) (x : α) : Old l (l1.set a x) := fun i y hi => by
  rw [List.getElem?_set_ne (by have := (List.getElem?_eq_some_iff.1 hi).1; omega)]
  exact h i y hi
def StR (n : Nat) (cs : List AV) : Prop := cs.length = n ∧ ∀ i, i < n → ∃ s, cs[i]? = some (.str s)
theorem StR.set {n : Nat} {cs : List AV} (h : StR n cs) (i : Nat) (s : Str) : StR n (cs.set i (.str s)) := by
  refine ⟨by simp [h.1], fun j hj => ?_⟩
  by_cases hij : i = j
  · subst hij
    exact ⟨s, by rw [List.getElem?_set_self (by rw [h.1]; exact hj)]⟩
  · rw [List.getElem?_set_ne hij]
    exact h.2 j hj
theorem StR.put {n : Nat} {cs : List AV} (h : StR n cs) {i : Nat} (hi : i < n) (s : Str) : StR n (List.take i cs ++ .str s :: List.drop (i + 1) cs) := by
  have := h.set i s
  rw [List.set_eq_take_append_cons_drop, if_pos (by rw [h.1]; exact hi)] at this
  exact this
theorem str_nms (w : List Mc) : StR w.length ((w.map Mc.nm).map .str) := ⟨by simp, fun i hi => ⟨w[i].nm, by simp [List.getElem?_eq_getElem hi]⟩⟩
def NR (r0 n : Nat) (R : List Arr) (P : AV) : Prop := (n = 0 ∧ P = .slc .full []) ∨ (n ≠ 0 ∧ ∃ a g cs, r0 ≤ a ∧ P = .osl a g 0 n ∧ R[a]? = some (.wr g 9 .sc cs) ∧ StR n cs)
theorem NRowF.nr {r0 : Nat} {R : List Arr} {P : AV} {w : List Mc} (h : NRowF r0 R P (w.map Mc.nm)) : NR r0 w.length R P := by
  rcases h with ⟨h, rfl⟩ | ⟨h, a, g, h1, rfl, h2⟩
  · exact .inl ⟨by simpa using h, rfl⟩
  · refine .inr ⟨by simpa using h, a, g, _, h1, by simp, h2, str_nms w⟩
section
variable {G : Nat → Option AV} {cl : Caller} {yl : Nat → List AV → Mem → Option (AV × Mem)} {N : Nat}
def S7 (n : Nat) (O : List Obj) (R : List Arr) (p q r : Nat) (E : List AV) (ev : Int) (P : AV) (i : Nat) (st : St) : Prop :=
  ∃ O1 R1, st = ⟨[(3, .ptr 0 0), (12, .ptr p 0), (13, .slc (.own r) E), (14, .ptr q 0), (16, .int .i64 ev), (17, P), (18, .int .i64 (i : Int))], ⟨O1, R1⟩, []⟩ ∧ Old O O1 ∧ Old R R1 ∧ NR R.length n R1 P
theorem loop7 {l : List Mc} {m : Mc} (h : Cs7 cl l m) {w : List Mc} (hg : Gd w) {O O1 : List Obj} {R R1 : List Arr} {p q r : Nat} {a : Option Nat} {E : List AV} {ev : Int} {P : AV} (hs : SetAt O R q a w) (hO : Old O O1) (hR : Old R R1) (hP : NR R.length w.length R1 P) (hN : 64 < N) (k mm : Nat) :
    ∃ e s', iter false (evalC G false cl yl N c7b0) ⟨[3, 12, 13, 14, 16, 17, 18], [(18, none)], true⟩ k mm N ⟨[(3, .ptr 0 0), (12, .ptr p 0), (13, .slc (.own r) E), (14, .ptr q 0), (16, .int .i64 ev), (17, P), (18, .int .i64 0)], ⟨O1, R1⟩, []⟩ = some (e, s') ∧ e ≠ .normal ∧
      (e = .exit 0 ∧ s'.mks = [] ∧ look 3 s'.ts = .ptr 0 0 ∧ look 12 s'.ts = .ptr p 0 ∧ look 13 s'.ts = .slc (.own r) E ∧ look 14 s'.ts = .ptr q 0 ∧ look 16 s'.ts = .int .i64 ev ∧ ∃ O2 R2, s'.m = ⟨O2, R2⟩ ∧ Old O O2 ∧ Old R R2) := by
  have hl := hg.len
  refine (iter_inv (mu := false) (step := evalC G false cl yl N c7b0) (an := ⟨[3, 12, 13, 14, 16, 17, 18], [(18, none)], true⟩) (k := k) (m := mm) (N := N) w (fun _ => (none : Option Unit)) (S7 w.length O R p q r E ev P)
    (fun _ e s' => e = .exit 0 ∧ s'.mks = [] ∧ look 3 s'.ts = .ptr 0 0 ∧ look 12 s'.ts = .ptr p 0 ∧ look 13 s'.ts = .slc (.own r) E ∧ look 14 s'.ts = .ptr q 0 ∧ look 16 s'.ts = .int .i64 ev ∧ ∃ O2 R2, s'.m = ⟨O2, R2⟩ ∧ Old O O2 ∧ Old R R2) (by omega)
    ⟨O1, R1, rfl, hO, hR, hP⟩ ?_ ?_)
  · clear hP hO hR
    rintro i d st hx hi ⟨O1, R1, rfl, hO, hR, hP⟩
    have w1 := wrap_succ (i := i) (by omega)
    rcases hP with ⟨h0, -⟩ | ⟨hn, b, g, cs, hb, rfl, hr, hst⟩
    · omega
    obtain ⟨s, hcs⟩ := hst.2 i hi
    have hcs' := (List.getElem?_eq_some_iff.1 hcs).2
    have hcl := hst.1
    have hle : i + 1 ≤ w.length := hi
    have hro : ∀ O, rowOf ⟨O, R1⟩ b g = some (9, .sc, cs) := fun O => by simp [rowOf, hr]
    have k15 := h.h15 w O1 R1 q a s (hs.old hO hR) hg
    cases hf : fnd w s with
    | none =>
      rw [hf] at k15
      obtain ⟨X, k15⟩ := k15
      simp -implicitDefEqProofs [mc0] at k15
      have fin : S7 w.length O R p q r E ev (.osl b g 0 w.length) (i + 1) ⟨[(3, .ptr 0 0), (12, .ptr p 0), (13, .slc (.own r) E), (14, .ptr q 0), (16, .int .i64 ev), (17, .osl b g 0 w.length), (18, .int .i64 ((i + 1 : Nat) : Int))], ⟨O1 ++ (X ++ [.cells [.str [], .slc .full [], .int .i64 0, .slc .full [], .int .i64 0, .int .i64 0, .int .i64 0, .slc .full []]]), R1.set b (.wr g 9 .sc (List.take i cs ++ .str [115, 112, 111, 105, 108, 116] :: List.drop (i + 1) cs))⟩, []⟩ :=
        ⟨_, _, rfl, hO.trans (.app _ _), hR.set hb _, .inr ⟨hn, b, g, _, hb, rfl, by rw [List.getElem?_set_self (List.getElem?_eq_some_iff.1 hr).1], hst.put hi _⟩⟩
      simp -implicitDefEqProofs [c7b0, hi, hro, hcs, hcs', hcl, w1, k15, hle]
      simpa using fin
    | some d =>
      rw [hf] at k15
      obtain ⟨X, Y, P, k15, hP⟩ := k15
      rcases hP with ⟨hd, rfl⟩ | ⟨hd, b', g', hb', rfl, hr'⟩
      · have fin : S7 w.length O R p q r E ev (.osl b g 0 w.length) (i + 1) ⟨[(3, .ptr 0 0), (12, .ptr p 0), (13, .slc (.own r) E), (14, .ptr q 0), (16, .int .i64 ev), (17, .osl b g 0 w.length), (18, .int .i64 ((i + 1 : Nat) : Int))], ⟨O1 ++ (X ++ [.cells (mco d (.slc .full []))]), (R1 ++ Y).set b (.wr g 9 .sc (List.take i cs ++ .str [115, 112, 111, 105, 108, 116] :: List.drop (i + 1) cs))⟩, []⟩ :=
          ⟨_, _, rfl, hO.trans (.app _ _), (hR.trans (.app _ _)).set hb _, .inr ⟨hn, b, g, _, hb, rfl, by rw [List.getElem?_set_self (List.getElem?_eq_some_iff.1 (get_old hr Y)).1], hst.put hi _⟩⟩
        have hro2 : ∀ O, rowOf ⟨O, R1 ++ Y⟩ b g = some (9, .sc, cs) := fun O => by simp [rowOf, get_old hr Y]
        generalize R1 ++ Y = R2 at *
        simp -implicitDefEqProofs [mco] at k15 fin
        simp -implicitDefEqProofs [c7b0, hi, hro, hro2, hcs, hcs', hcl, w1, k15, hle]
        simpa using fin
      · have hlb : b < R1.length := (List.getElem?_eq_some_iff.1 hr).1
        have hr2 := get_old hr Y
        have hO2 : Old R (R1 ++ Y) := hR.trans (.app _ _)
        have hlb' : R.length ≤ b' := by omega
        have hne : b' ≠ b := by omega
        obtain ⟨v, vs, hv⟩ := List.exists_cons_of_ne_nil hd
        have hfl : 0 < d.ps.length := by rw [hv]; simp
        have hrow : ∃ cs', (R1 ++ Y)[b']? = some (.wr g' 74 (.ag 2) cs') ∧ 1 ≤ cs'.length := ⟨_, hr', by rw [fm_len]; omega⟩
        obtain ⟨cs', hr', hc1⟩ := hrow
        generalize R1 ++ Y = R2 at *
        generalize d.ps.length = kk at *
        have hro2 : ∀ O, rowOf ⟨O, R2⟩ b' g' = some (74, .ag 2, cs') := fun O => by simp [rowOf, hr']
        have fin : S7 w.length O R p q r E ev (.osl b g 0 w.length) (i + 1) ⟨[(3, .ptr 0 0), (12, .ptr p 0), (13, .slc (.own r) E), (14, .ptr q 0), (16, .int .i64 ev), (17, .osl b g 0 w.length), (18, .int .i64 ((i + 1 : Nat) : Int))], ⟨O1 ++ (X ++ [.cells (mco d (.osl b' g' 0 kk))]), (R2.set b' (.wr g' 74 (.ag 2) (.str [115, 112, 111, 105, 108, 116] :: List.drop 1 cs'))).set b (.wr g 9 .sc (List.take i cs ++ .str [115, 112, 111, 105, 108, 116] :: List.drop (i + 1) cs))⟩, []⟩ :=
          ⟨_, _, rfl, hO.trans (.app _ _), (hO2.set hlb' _).set hb _, .inr ⟨hn, b, g, _, hb, rfl, by rw [List.getElem?_set_self (by simpa using (List.getElem?_eq_some_iff.1 hr2).1)], hst.put hi _⟩⟩
        have hro3 : ∀ O x, rowOf ⟨O, R2.set b' x⟩ b g = some (9, .sc, cs) := fun O x => by simp [rowOf, List.getElem?_set_ne hne, hr2]
        simp -implicitDefEqProofs [mco] at k15 fin
        simp -implicitDefEqProofs [c7b0, hi, hro, hro2, hro3, hcs, hcs', hcl, w1, k15, hle, hfl, hc1]
        simpa using fin
  · rintro st ⟨O1, R1, rfl, hO, hR, hP⟩
    rcases hP with ⟨h0, rfl⟩ | ⟨hn, b, g, cs, hb, rfl, hr, hst⟩
    · simp -implicitDefEqProofs [c7b0, h0]
      exact ⟨_, _, ⟨rfl, rfl⟩, hO, hR⟩
    · have hro : ∀ O, rowOf ⟨O, R1⟩ b g = some (9, .sc, cs) := fun O => by simp [rowOf, hr]
      simp -implicitDefEqProofs [c7b0, hro]
      exact ⟨_, _, ⟨rfl, rfl⟩, hO, hR⟩
end
theorem c7t13_eq : c7t13 = .seq (.reg [⟨some 133, (.mov (.tmp 14)), none⟩, ⟨some 134, (.call (.fn 28) [(.tmp 133)]), none⟩, ⟨some 17, (.mov (.tmp 134)), none⟩]) (.seq (.seq (.reg [⟨some 18, (.mov (.const (.int .i64 0))), none⟩]) (.block 0 (.loop ⟨[3, 12, 13, 14, 16, 17, 18], [(18, none)], true⟩ c7b0))) c7t15) := rfl
section
variable {G : Nat → Option AV} {cl : Caller} {yl : Nat → List AV → Mem → Option (AV × Mem)} {N : Nat}
theorem evD (l : List Mc) (m : Mc) (hm : OkM m) (h : Cs7 cl l m) (hN : 64 < N) {ts : Slots} {O : List Obj} {R : List Arr} {p q r : Nat} {a1 a2 : Option Nat} {w : List Mc} (hg : Gd w)
    (q3 : look 3 ts = .ptr 0 0) (q12 : look 12 ts = .ptr p 0) (q13 : look 13 ts = .slc (.own r) (w.map mcv)) (q14 : look 14 ts = .ptr q 0) (q16 : look 16 ts = .int .i64 (may w m))
    (hO : O[0]? = some (.cells (mcc m))) (h1 : SetAt O R p a1 w) (h2 : SetAt O R q a2 (adl w m)) :
    ∃ ts' M', evalC G false cl yl N c7t13 ⟨ts, ⟨O, R⟩, []⟩ = some (.ret, ⟨ts', M', []⟩) ∧ look 4 ts' = .bool true := by
  obtain ⟨X, Y, P, k28, hP⟩ := h.h28 _ O R q a2 h2 (hg.adl hm)
  obtain ⟨e, ⟨ts2, M2, mk⟩, k1, -, rfl, rfl, p3, p12, p13, p14, p16, O2, R2, rfl, hO2, hR2⟩ := loop7 (G := G) (yl := yl) (N := N) h (hg.adl hm) (p := p) (q := q) (r := r) (E := w.map mcv) (ev := may w m) h2 (Old.app O X) (Old.app R Y) hP.nr hN (O ++ X).length (R ++ Y).length
  obtain ⟨ts', M', k2, k3⟩ := evE (G := G) (yl := yl) (N := N) l m hm h hg p3 p12 p13 p14 p16 (hO2 0 _ hO) (h1.old hO2 hR2) (h2.old hO2 hR2)
  refine ⟨ts', M', ?_, k3⟩
  simp at k1
  simp -implicitDefEqProofs [c7t13_eq, q3, q12, q13, q14, q16, k28, k1, k2]
end
theorem c7t10_eq : c7t10 = .seq (.reg [⟨some 120, (.load (.ag 8) (.tmp 3)), none⟩, ⟨some 121, (.call (.fn 13) [(.tmp 120)]), none⟩, ⟨some 15, (.alloc [(.str []), (.slc .full []), (.int .i64 0), (.slc .full []), (.int .i64 0), (.int .i64 0), (.int .i64 0), (.slc .full [])]), none⟩, ⟨none, (.store 8 (.tmp 15) (.tmp 121)), none⟩]) (.seq (.reg [⟨some 122, (.mov (.tmp 14)), none⟩, ⟨some 123, (.load (.ag 8) (.tmp 15)), none⟩, ⟨some 124, (.call (.fn 12) [(.tmp 122), (.tmp 123)]), none⟩, ⟨some 16, (.mov (.tmp 124)), none⟩]) (.seq (.seq (.reg [⟨some 125, (.faddr 1 .sc (.tmp 15)), none⟩, ⟨some 126, (.load .sc (.tmp 125)), none⟩, ⟨some 127, (.len 1 (.tmp 126)), none⟩, ⟨some 128, (.bin .gtr (.tmp 127) (.const (.int .i64 0))), none⟩]) (.cond (.tmp 128) (.reg [⟨some 129, (.faddr 1 .sc (.tmp 15)), none⟩, ⟨some 130, (.load .sc (.tmp 129)), none⟩, ⟨some 131, (.iaddrS (.ag 2) (.tmp 130) (.const (.int .i64 0))), none⟩, ⟨some 132, (.faddr 0 .sc (.tmp 131)), none⟩, ⟨none, (.store 1 (.tmp 132) (.const (.str [115, 112, 111, 105, 108, 116]))), none⟩]) .skip)) c7t13)) := rfl
theorem c7t7_eq : c7t7 = .seq (.reg [⟨some 97, (.mov (.tmp 0)), none⟩, ⟨some 98, (.call (.fn 17) [(.tmp 97)]), none⟩, ⟨some 96, (.mov (.tmp 98)), none⟩, ⟨some 99, (.extr (.tmp 96) 0), none⟩, ⟨some 100, (.extr (.tmp 96) 1), none⟩, ⟨some 12, (.mov (.tmp 99)), none⟩, ⟨some 13, (.mov (.tmp 100)), none⟩]) (.seq (.reg [⟨some 101, (.mov (.tmp 12)), none⟩, ⟨some 102, (.call (.fn 29) [(.tmp 101)]), none⟩, ⟨some 14, (.mov (.tmp 102)), none⟩]) (.seq (.seq (.reg [⟨some 103, (.mov (.tmp 14)), none⟩, ⟨some 104, (.isnil 4 false (.tmp 103)), none⟩, ⟨some 105, (.mov (.tmp 104)), none⟩, ⟨some 106, (.mov (.tmp 14)), some (105, false)⟩, ⟨some 107, (.mov (.tmp 12)), some (105, false)⟩, ⟨some 108, (.call (.fn 22) [(.tmp 106), (.tmp 107)]), some (105, false)⟩, ⟨some 109, (.un .not (.tmp 108)), some (105, false)⟩, ⟨some 110, (.pick (.tmp 105) (.const (.bool true)) (.tmp 109)), none⟩, ⟨some 111, (.mov (.tmp 110)), none⟩, ⟨some 112, (.mov (.tmp 12)), some (111, false)⟩, ⟨some 113, (.call (.fn 22) [(.tmp 112), (.const .nilp)]), some (111, false)⟩, ⟨some 114, (.pick (.tmp 111) (.const (.bool true)) (.tmp 113)), none⟩, ⟨some 115, (.mov (.tmp 114)), none⟩, ⟨some 116, (.mov (.tmp 5)), some (115, false)⟩, ⟨some 117, (.mov (.tmp 12)), some (115, false)⟩, ⟨some 118, (.call (.fn 22) [(.tmp 116), (.tmp 117)]), some (115, false)⟩, ⟨some 119, (.pick (.tmp 115) (.const (.bool true)) (.tmp 118)), none⟩]) (.cond (.tmp 119) (.seq (.reg [⟨some 4, (.mov (.const (.bool false))), none⟩]) .ret) .skip)) c7t10)) := rfl
theorem c7t2_eq : c7t2 = .seq (.reg [⟨some 5, (.mov (.const .nilp)), none⟩]) (.seq (.reg [⟨some 38, (.mov (.tmp 5)), none⟩, ⟨some 39, (.call (.fn 15) [(.tmp 38), (.const (.str [102]))]), none⟩, ⟨some 37, (.mov (.tmp 39)), none⟩, ⟨some 40, (.extr (.tmp 37) 0), none⟩, ⟨some 41, (.extr (.tmp 37) 1), none⟩, ⟨some 6, (.alloc [(.str []), (.slc .full []), (.int .i64 0), (.slc .full []), (.int .i64 0), (.int .i64 0), (.int .i64 0), (.slc .full [])]), none⟩, ⟨none, (.store 8 (.tmp 6) (.tmp 40)), none⟩, ⟨some 7, (.mov (.tmp 41)), none⟩]) (.seq (.reg [⟨some 43, (.mov (.tmp 5)), none⟩, ⟨some 44, (.build [(.slc .full []), (.int .i64 0), (.slc .full []), (.int .i64 0), (.int .i64 0), (.int .i64 0), (.slc .full [])] []), none⟩, ⟨some 45, (.call (.fn 24) [(.tmp 43), (.tmp 44)]), none⟩, ⟨some 42, (.mov (.tmp 45)), none⟩, ⟨some 46, (.extr (.tmp 42) 0), none⟩, ⟨some 47, (.extr (.tmp 42) 1), none⟩, ⟨some 8, (.alloc [(.slc .full []), (.int .i64 0), (.slc .full []), (.int .i64 0), (.int .i64 0), (.int .i64 0), (.slc .full [])]), none⟩, ⟨none, (.store 7 (.tmp 8) (.tmp 46)), none⟩, ⟨some 9, (.mov (.tmp 47)), none⟩]) (.seq (.reg [⟨some 49, (.mov (.tmp 5)), none⟩, ⟨some 50, (.call (.fn 18) [(.tmp 49)]), none⟩, ⟨some 48, (.mov (.tmp 50)), none⟩, ⟨some 51, (.extr (.tmp 48) 0), none⟩, ⟨some 52, (.extr (.tmp 48) 1), none⟩, ⟨some 10, (.mov (.tmp 51)), none⟩, ⟨some 11, (.mov (.tmp 52)), none⟩]) (.seq (.seq (.reg [⟨some 53, (.mov (.tmp 7)), none⟩, ⟨some 54, (.mov (.tmp 53)), none⟩, ⟨some 55, (.mov (.tmp 9)), some (54, false)⟩, ⟨some 56, (.bin .neq (.tmp 55) (.const (.int .i64 1))), some (54, false)⟩, ⟨some 57, (.pick (.tmp 54) (.const (.bool true)) (.tmp 56)), none⟩, ⟨some 58, (.mov (.tmp 57)), none⟩, ⟨some 59, (.mov (.tmp 10)), some (58, false)⟩, ⟨some 60, (.bin .neq (.tmp 59) (.const (.str []))), some (58, false)⟩, ⟨some 61, (.pick (.tmp 58) (.const (.bool true)) (.tmp 60)), none⟩, ⟨some 62, (.mov (.tmp 61)), none⟩, ⟨some 63, (.mov (.tmp 11)), some (62, false)⟩, ⟨some 64, (.bin .neq (.tmp 63) (.const (.int .i64 1))), some (62, false)⟩, ⟨some 65, (.pick (.tmp 62) (.const (.bool true)) (.tmp 64)), none⟩, ⟨some 66, (.mov (.tmp 65)), none⟩, ⟨some 67, (.mov (.tmp 5)), some (66, false)⟩, ⟨some 68, (.load (.ag 8) (.tmp 3)), some (66, false)⟩, ⟨some 69, (.call (.fn 13) [(.tmp 68)]), some (66, false)⟩, ⟨some 70, (.call (.fn 12) [(.tmp 67), (.tmp 69)]), some (66, false)⟩, ⟨some 71, (.bin .neq (.tmp 70) (.const (.int .i64 1))), some (66, false)⟩, ⟨some 72, (.pick (.tmp 66) (.const (.bool true)) (.tmp 71)), none⟩, ⟨some 73, (.mov (.tmp 72)), none⟩, ⟨some 74, (.mov (.tmp 5)), some (73, false)⟩, ⟨some 75, (.call (.fn 28) [(.tmp 74)]), some (73, false)⟩, ⟨some 76, (.len 1 (.tmp 75)), some (73, false)⟩, ⟨some 77, (.bin .neq (.tmp 76) (.const (.int .i64 0))), some (73, false)⟩, ⟨some 78, (.pick (.tmp 73) (.const (.bool true)) (.tmp 77)), none⟩, ⟨some 79, (.mov (.tmp 78)), none⟩, ⟨some 80, (.mov (.tmp 5)), some (79, false)⟩, ⟨some 81, (.build [(.slc .full []), (.int .i64 0), (.slc .full []), (.int .i64 0), (.int .i64 0), (.int .i64 0), (.slc .full [])] []), some (79, false)⟩, ⟨some 82, (.call (.fn 26) [(.tmp 80), (.tmp 81)]), some (79, false)⟩, ⟨some 83, (.len 1 (.tmp 82)), some (79, false)⟩, ⟨some 84, (.bin .neq (.tmp 83) (.const (.int .i64 0))), some (79, false)⟩, ⟨some 85, (.pick (.tmp 79) (.const (.bool true)) (.tmp 84)), none⟩, ⟨some 86, (.mov (.tmp 85)), none⟩, ⟨some 87, (.mov (.tmp 5)), some (86, false)⟩, ⟨some 88, (.call (.fn 29) [(.tmp 87)]), some (86, false)⟩, ⟨some 89, (.isnil 4 true (.tmp 88)), some (86, false)⟩, ⟨some 90, (.pick (.tmp 86) (.const (.bool true)) (.tmp 89)), none⟩, ⟨some 91, (.mov (.tmp 90)), none⟩, ⟨some 92, (.mov (.tmp 5)), some (91, false)⟩, ⟨some 93, (.call (.fn 22) [(.tmp 92), (.const .nilp)]), some (91, false)⟩, ⟨some 94, (.un .not (.tmp 93)), some (91, false)⟩, ⟨some 95, (.pick (.tmp 91) (.const (.bool true)) (.tmp 94)), none⟩]) (.cond (.tmp 95) (.seq (.reg [⟨some 4, (.mov (.const (.bool false))), none⟩]) .ret) .skip)) c7t7)))) := rfl
def Ends (r : Option (Ex × St)) : Prop := ∃ ts' M', r = some (.ret, ⟨ts', M', []⟩) ∧ look 4 ts' = .bool true
section
variable {G : Nat → Option AV} {cl : Caller} {yl : Nat → List AV → Mem → Option (AV × Mem)} {N : Nat}
theorem add7 {l : List Mc} {m : Mc} (hm : OkM m) (h10 : m.ps.length ≤ 10) (h : Cs7 cl l m) {O : List Obj} {R : List Arr} {q : Nat} {a2 : Option Nat} {w : List Mc} (hg : Gd w) (h2 : SetAt O R q a2 w) {P : AV} (hP : PRow R P m.ps) :
    ∃ O' R' a3, cl 12 [.ptr q 0, .agg (mco m P)] ⟨O, R⟩ = some (.int .i64 (may w m), ⟨O', R'⟩) ∧ SetAt O' R' q a3 (adl w m) ∧ (∀ i o, i ≠ q → O[i]? = some o → O'[i]? = some o) ∧ (∀ b r, some b ≠ a2 → R[b]? = some r → R'[b]? = some r) ∧ (a3 = a2 ∨ ∃ k, R.length ≤ k ∧ a3 = some k) := by
  by_cases hc : may w m = 0
  · obtain ⟨O', R', a3, k, hA⟩ := h.h12y w O R q a2 P h2 hg h10 hP hc
    refine ⟨O', R', a3, by rw [hc]; exact k, by rw [adl, if_pos hc]; exact hA.set, hA.obj, hA.row, ?_⟩
    rcases hA.own with e | ⟨-, e⟩
    · exact .inl e
    · exact .inr e
  · obtain ⟨X, k⟩ := h.h12n w O R q a2 P h2 hg h10 hP hc
    refine ⟨O ++ X, R, a2, k, by rw [adl, if_neg hc]; exact h2.growO X, fun i o _ hi => get_old hi X, fun b r _ hb => hb, .inl rfl⟩
theorem SetAt.lt {O : List Obj} {R : List Arr} {id : Nat} {a : Option Nat} {w : List Mc} (h : SetAt O R id a w) : id < O.length ∧ ∀ b, a = some b → b < R.length := by
  cases h with
  | nil h => exact ⟨(List.getElem?_eq_some_iff.1 h).1, fun b e => by cases e⟩
  | own h hr => exact ⟨(List.getElem?_eq_some_iff.1 h).1, fun b e => by cases e; exact (List.getElem?_eq_some_iff.1 hr).1⟩
theorem SetAt.oth {O O' : List Obj} {R R' : List Arr} {id : Nat} {a : Option Nat} {w : List Mc} (h : SetAt O R id a w) (hO : ∀ o, O[id]? = some o → O'[id]? = some o) (hR : ∀ b r, a = some b → R[b]? = some r → R'[b]? = some r) : SetAt O' R' id a w := by
  cases h with
  | nil h => exact .nil (hO _ h)
  | own h hr => exact .own (hO _ h) (hR _ _ rfl hr)
theorem evC (l : List Mc) (m : Mc) (hm : OkM m) (h10 : m.ps.length ≤ 10) (h : Cs7 cl l m) (hN : 64 < N) {ts : Slots} {O : List Obj} {R : List Arr} {p q r : Nat} {a1 a2 : Option Nat} {w : List Mc} (hg : Gd w)
    (q3 : look 3 ts = .ptr 0 0) (q12 : look 12 ts = .ptr p 0) (q13 : look 13 ts = .slc (.own r) (w.map mcv)) (q14 : look 14 ts = .ptr q 0)
    (hO : O[0]? = some (.cells (mcc m))) (h1 : SetAt O R p a1 w) (h2 : SetAt O R q a2 w) (hpq : p ≠ q) (h0 : q ≠ 0) (hd : ∀ b, a2 = some b → a1 ≠ some b) :
    Ends (evalC G false cl yl N c7t10 ⟨ts, ⟨O, R⟩, []⟩) := by
  obtain ⟨X, Y, P, k13, hP⟩ := h.h13 O R
  have h2' := h2.grow (X ++ [.cells (mco m P)]) Y
  have h1' := h1.grow (X ++ [.cells (mco m P)]) Y
  obtain ⟨l1, l2⟩ := h2.lt
  obtain ⟨l3, l4⟩ := h1.lt
  obtain ⟨O3, R3, a3, k12, f1, f2, f3, f4⟩ := add7 hm h10 h hg h2' hP.row
  have hn : O3[O.length + X.length]? = some (.cells (mco m P)) := f2 _ _ (by omega) (by simp)
  have hO3 : O3[0]? = some (.cells (mcc m)) := f2 _ _ (fun e => h0 e.symm) (get_old hO _)
  have hn1 : SetAt O3 R3 p a1 w := h1'.oth (fun o => f2 p o hpq) fun b r hb => f3 b r fun e => hd b e.symm hb
  rcases hP with ⟨hps, rfl⟩ | ⟨hps, a, g, ha, rfl, hr⟩
  · simp -implicitDefEqProofs [mco] at k13 k12 hn
    simp -implicitDefEqProofs [c7t10_eq, q3, q12, q13, q14, hO, mcc_len, mcc_take, agg_mcc, k13, k12, hn]
    exact evD (r := r) l m hm h hN hg (by simp [q3]) (by simp [q12]) (by simp [q13]) (by simp [q14]) (by simp) hO3 hn1 f1
  · have hr3 : R3[a]? = some (rwV g m.ps) := f3 _ _ (fun e => by have := l2 a e.symm; omega) hr
    have hne3 : a3 ≠ some a := by
      rcases f4 with e | ⟨k, hk, e⟩
      · rw [e]; exact fun e => by have := l2 a e; omega
      · rw [e]; exact fun e => by have := (List.getElem?_eq_some_iff.1 hr).1; cases e; omega
    have hne1 : a1 ≠ some a := fun e => by have := l4 a e; omega
    have hfl : 0 < m.ps.length := List.length_pos_iff.2 hps
    have hrow : ∃ cs', R3[a]? = some (.wr g 74 (.ag 2) cs') ∧ 1 ≤ cs'.length := ⟨_, hr3, by rw [fm_len]; omega⟩
    obtain ⟨cs', hr4, hc1⟩ := hrow
    have hro2 : ∀ O, rowOf ⟨O, R3⟩ a g = some (74, .ag 2, cs') := fun O => by simp [rowOf, hr4]
    generalize m.ps.length = kk at *
    simp -implicitDefEqProofs [mco] at k13 k12 hn
    simp -implicitDefEqProofs [c7t10_eq, q3, q12, q13, q14, hO, mcc_len, mcc_take, agg_mcc, k13, k12, hn, hro2, hfl, hc1]
    exact evD (r := r) l m hm h hN hg (by simp [q3]) (by simp [q12]) (by simp [q13]) (by simp [q14]) (by simp) hO3 (hn1.setRow hne1 _) (f1.setRow hne3 _)
theorem evB (l : List Mc) (m : Mc) (hm : OkM m) (h10 : m.ps.length ≤ 10) (h : Cs7 cl l m) (hN : 64 < N) (hl : l.length ≤ 5) {ts : Slots} {O : List Obj} {R : List Arr}
    (q0 : look 0 ts = .slc .shared (l.map mcv)) (q3 : look 3 ts = .ptr 0 0) (q5 : look 5 ts = .nilp) (hO : O[0]? = some (.cells (mcc m))) :
    Ends (evalC G false cl yl N c7t7 ⟨ts, ⟨O, R⟩, []⟩) := by
  obtain ⟨X, Y, a, w, k17, h1, ha, hg⟩ := h.h17 hl O R
  obtain ⟨X2, Y2, a', k29, h2, ha'⟩ := h.h29 w _ _ _ a h1 hg
  have h1' := h1.grow X2 Y2
  obtain ⟨l1, l2⟩ := h1.lt
  have k22 := h.e22 w _ _ _ _ a' a h2 h1' hg
  have p22 := h.p22
  have n22 := h.n22
  have key := fun (ts : Slots) (q3 : look 3 ts = .ptr 0 0) q12 q13 q14 => evC (G := G) (yl := yl) (N := N) l m hm h10 h hN (ts := ts) (O := O ++ X ++ X2) (R := R ++ Y ++ Y2) (p := O.length) (q := (O ++ X).length) (r := R.length) (a1 := a) (a2 := a') hg q3 q12 q13 q14 (get_old (get_old hO _) _) h1' h2 (by omega) (by omega) (fun b e1 e2 => by have := ha' b e1; have := l2 b e2; omega)
  simp -implicitDefEqProofs at k29 k22 key
  simp -implicitDefEqProofs [c7t7_eq, q0, q3, q5, k17, k29, k22, p22, n22]
  exact key _ (by simp [q3]) (by simp) (by simp) (by simp)
end
theorem c7_eq : c7 = ⟨201, true, .seq (.reg [⟨some 3, (.box (.tmp 1)), none⟩, ⟨some 4, (.mov (.const (.bool false))), none⟩]) (.seq (.seq (.reg [⟨some 21, (.mov (.tmp 0)), none⟩, ⟨some 22, (.call (.fn 8) [(.tmp 21)]), none⟩, ⟨some 23, (.un .not (.tmp 22)), none⟩, ⟨some 24, (.mov (.tmp 23)), none⟩, ⟨some 25, (.faddr 2 (.ag 6) (.tmp 3)), some (24, false)⟩, ⟨some 26, (.load (.ag 6) (.tmp 25)), some (24, false)⟩, ⟨some 27, (.call (.fn 23) [(.tmp 26)]), some (24, false)⟩, ⟨some 28, (.un .not (.tmp 27)), some (24, false)⟩, ⟨some 29, (.pick (.tmp 24) (.const (.bool true)) (.tmp 28)), none⟩, ⟨some 30, (.mov (.tmp 29)), none⟩, ⟨some 31, (.faddr 1 .sc (.tmp 3)), some (30, false)⟩, ⟨some 32, (.load .sc (.tmp 31)), some (30, false)⟩, ⟨some 33, (.len 1 (.tmp 32)), some (30, false)⟩, ⟨some 34, (.bin .gtr (.tmp 33) (.const (.int .i64 10))), some (30, false)⟩, ⟨some 35, (.pick (.tmp 30) (.const (.bool true)) (.tmp 34)), none⟩]) (.cond (.tmp 35) (.seq (.reg [⟨some 36, (.call (.fn 9) []), none⟩, ⟨some 4, (.mov (.tmp 36)), none⟩]) .ret) .skip)) c7t2), [(.tmp 4)]⟩ := rfl
section
variable {G : Nat → Option AV} {cl : Caller} {yl : Nat → List AV → Mem → Option (AV × Mem)} {N : Nat}
set_option maxRecDepth 4000 in
theorem evA (l : List Mc) (m : Mc) (hm : OkM m) (h10 : m.ps.length ≤ 10) (h : Cs7 cl l m) (hN : 64 < N) (hl : l.length ≤ 5) {ts : Slots} {O : List Obj} {R : List Arr}
    (q0 : look 0 ts = .slc .shared (l.map mcv)) (q3 : look 3 ts = .ptr 0 0) (hO : O[0]? = some (.cells (mcc m))) :
    Ends (evalC G false cl yl N c7t2 ⟨ts, ⟨O, R⟩, []⟩) := by
  have hnew := fun (O : List Obj) (x : Obj) => List.getElem?_concat_length (l := O) (a := x)
  obtain ⟨X1, k15⟩ := h.a15 [102] O R
  obtain ⟨X2, k24⟩ := h.a24 (O ++ X1 ++ [.cells [.str [], .slc .full [], .int .i64 0, .slc .full [], .int .i64 0, .int .i64 0, .int .i64 0, .slc .full []]]) R
  have k18 := h.a18
  obtain ⟨X3, Y3, P, k13, hP⟩ := h.h13 (O ++ X1 ++ [.cells [.str [], .slc .full [], .int .i64 0, .slc .full [], .int .i64 0, .int .i64 0, .int .i64 0, .slc .full []]] ++ X2 ++ [.cells [.slc .full [], .int .i64 0, .slc .full [], .int .i64 0, .int .i64 0, .int .i64 0, .slc .full []]]) R
  obtain ⟨X4, k12⟩ := h.a12 P (O ++ X1 ++ [.cells [.str [], .slc .full [], .int .i64 0, .slc .full [], .int .i64 0, .int .i64 0, .int .i64 0, .slc .full []]] ++ X2 ++ [.cells [.slc .full [], .int .i64 0, .slc .full [], .int .i64 0, .int .i64 0, .int .i64 0, .slc .full []]] ++ X3) (R ++ Y3)
  have k28 := h.a28
  obtain ⟨X5, k26⟩ := h.a26 (O ++ X1 ++ [.cells [.str [], .slc .full [], .int .i64 0, .slc .full [], .int .i64 0, .int .i64 0, .int .i64 0, .slc .full []]] ++ X2 ++ [.cells [.slc .full [], .int .i64 0, .slc .full [], .int .i64 0, .int .i64 0, .int .i64 0, .slc .full []]] ++ X3 ++ X4) (R ++ Y3)
  have k29 := h.a29
  have k22 := h.a22
  have hPP := hP.cells
  simp -implicitDefEqProofs [mc0, q0V, mco] at k15 k24 k13 k12 k26
  simp -implicitDefEqProofs [c7t2_eq, q0, q3, hO, get_old hO, mcc_len, mcc_take, agg_mcc, k15, k24, k18, k13, k12, k28, k26, k29, k22, hPP, strA]
  exact evB l m hm h10 h hN hl (by simp [q0]) (by simp [q3]) (by simp) (get_old hO _)
theorem ev7 (l : List Mc) (m : Mc) (hm : OkM m) (h : Cs7 cl l m) (hN : 64 < N) : pureA G false cl yl N c7 [.slc .shared (l.map mcv), mcv m] = some (.bool true, none) := by
  obtain ⟨b, h23⟩ := h.h23
  have h8 := h.h8
  have h9 := h.h9
  by_cases hs : sme l = true ∧ b = true ∧ m.ps.length ≤ 10
  · obtain ⟨h1, rfl, h2⟩ := hs
    rw [h1] at h8
    have hl : l.length ≤ 5 := by
      unfold sme at h1
      simp at h1
      exact h1.1
    have key := fun (ts : Slots) (q0 : look 0 ts = .slc .shared (l.map mcv)) (q3 : look 3 ts = .ptr 0 0) => evA (G := G) (yl := yl) (N := N) l m hm h2 h hN hl (ts := ts) (O := [.cells (mcc m)]) (R := []) q0 q3 rfl
    rw [mcc_eq] at key
    have hd : decide ((10 : Int) < (m.ps.length : Int)) = false := by simp; omega
    obtain ⟨ts', M', k1, k2⟩ := key [(35, .bool false), (34, .bool false), (33, .int .i64 m.ps.length), (32, .slc .shared (m.ps.map vrv)), (31, .ptr 0 1), (30, .bool false), (29, .bool false), (28, .bool false), (27, .bool true), (26, av m.bd), (25, .ptr 0 2), (24, .bool false), (23, .bool false), (22, .bool true), (21, .slc .shared (l.map mcv)), (4, .bool false), (3, .ptr 0 0), (0, .slc .shared (l.map mcv)), (1, mcv m)] (by simp) (by simp)
    simp -implicitDefEqProofs [c7_eq, h8, h23, hd, k1, k2]
  · have : sme l = false ∨ (sme l = true ∧ b = false) ∨ (sme l = true ∧ b = true ∧ 10 < m.ps.length) := by
      cases h1 : sme l <;> cases b <;> simp_all
    rcases this with h1 | ⟨h1, rfl⟩ | ⟨h1, rfl, h2⟩
    · rw [h1] at h8
      simp -implicitDefEqProofs [c7_eq, h8, h23, h9]
    · rw [h1] at h8
      simp -implicitDefEqProofs [c7_eq, h8, h23, h9]
    · rw [h1] at h8
      have hd : decide ((10 : Int) < (m.ps.length : Int)) = true := by simp; omega
      simp -implicitDefEqProofs [c7_eq, h8, h23, h9]
      rw [hd]
      simp -implicitDefEqProofs
end
section
variable {t : Nat}
def ssE (p : List Str × List Str) : List AV := [.slc .shared (p.1.map .str), .slc .shared (p.2.map .str)]
theorem ssE_inj (a b : List Str × List Str) (h : ssE a = ssE b) : a = b := by
  simp only [ssE, List.cons.injEq, AV.slc.injEq, true_and, and_true] at h
  exact Prod.ext (strs_inj h.1) (strs_inj h.2)
noncomputable abbrev Q1 : List (Nat × (List AV → Ores)) := (77, spR e2 (fun p => (.bool (sameN p.1 p.2), none)) (fun p => bk p.1 ≤ big)) :: (130, spR ssE (fun p => (.bool (p.1 == p.2), none)) (fun p => p.1.length < big)) :: N7
theorem kq1 : OrcOK Tryz.prog (GG t) (orcOf Q1) := by
  refine orc_selfB _ _ _ (fun p => sz p.1) av2_inj ok77 ?_ (orc_con _ _ _ ok130 (fun p hb => ⟨p.1.length + 1, ev130 p.1 p.2 hb (Nat.lt_succ_self _)⟩) o37)
  intro p hb orc hself hother
  obtain ⟨a, b⟩ := p
  simp only at hb
  have hl := len_bk a
  refine ⟨bk a + 1, 3, ev77 a b (fun M => bw_sp ?_) (fun M => ?_)⟩
  · rw [spC_ext (hother 130 (by decide))]
    exact spC_v ssE_inj (a.ns, b.ns) (by repeat first | exact .here | refine .there ?_ rfl) (by have := names_bk a; show a.ns.length < big; omega) (by exact rfl) (by rfl) M
  · refine bw_pure (cf := c131) ?_ rfl rfl rfl rfl (ev131 a.l b.l (by omega) (by omega) fun x hx y hy M => bw_sp ?_) M
    · have : argL [.slc .shared (avL a.l), .slc .shared (avL b.l), .fn 77 [] []] = some [.slc .shared (avL a.l), .slc .shared (avL b.l), .fn 77 [] []] := by simp
      unfold orcW
      rw [this]
      show orc 131 _ = none
      rw [hother 131 (by decide)]; rfl
    · exact spC_self (hself (x, y) (by have := bk_child hx; show bk x ≤ big; omega) (sz_child hx)) (by simp [e2]) M
def eVV (l : List Vr) : List AV := [.slc .shared (l.map vrv), .slc .shared (l.map vrv)]
theorem eVV_inj (a b : List Vr) (h : eVV a = eVV b) : a = b := by
  simp only [eVV, List.cons.injEq, AV.slc.injEq, true_and, and_true] at h
  exact vrs_inj h.1
abbrev eMM (m : Mc) : List AV := [mcv m, mcv m]
theorem eMM_inj (a b : Mc) (h : eMM a = eMM b) : a = b := mcv_inj (by simp [eMM] at h; exact h)
noncomputable abbrev Q2 : List (Nat × (List AV → Ores)) := (62, spR eMM (fun _ => (.bool true, none)) OkM) :: (76, spR eVV (fun _ => (.bool true, none)) (fun l => l.length < big)) :: Q1
theorem kq2 : OrcOK Tryz.prog (GG t) (orcOf Q2) := by
  refine orc_con _ _ _ ok62 (fun m h => ⟨1, ev62 m (fun M => spC_v eVV_inj m.ps (by repeat first | exact .here | refine .there ?_ rfl) (by exact h.ps) (by exact rfl) (by rfl) M) fun M => spC_v av2_inj (m.bd, m.bd) (by repeat first | exact .here | refine .there ?_ rfl) (by exact h.bd) (by exact a2 _ _) (by
    have : sameN m.bd m.bd = true := (sameN_iff _ _).2 rfl
    simp only [this]) M⟩) ?_
  exact orc_con _ _ _ ok76 (fun l h => ⟨l.length + 1, ev76 l h (Nat.lt_succ_self _)⟩) kq1
def e61 (p : (Bool × Bool) × List Mc × List Mc) : List AV := [.slc (spB' p.1.1) (p.2.1.map mcv), .slc (spB' p.1.2) (p.2.2.map mcv), .fn 62 [] []]
theorem e61_inj (a b : (Bool × Bool) × List Mc × List Mc) (h : e61 a = e61 b) : a = b := by
  obtain ⟨⟨a1, a2⟩, a3, a4⟩ := a
  obtain ⟨⟨b1, b2⟩, b3, b4⟩ := b
  simp only [e61, List.cons.injEq, AV.slc.injEq, true_and, and_true] at h
  obtain ⟨⟨h1, h2⟩, h3, h4⟩ := h
  rw [mcs_inj h2, mcs_inj h4]
  have e1 : a1 = b1 := by cases a1 <;> cases b1 <;> simp_all [spB']
  have e2 : a2 = b2 := by cases a2 <;> cases b2 <;> simp_all [spB']
  rw [e1, e2]
def isF : Sp → Bool
  | .full => true
  | _ => false
theorem a61 (s1 s2 : Sp) (w1 w2 : List Mc) : argL [.slc s1 (w1.map mcv), .slc s2 (w2.map mcv), .fn 62 [] []] = some (e61 ((isF s1, isF s2), w1, w2)) := by
  cases s1 <;> cases s2 <;> simp [e61, spB', isF]
noncomputable abbrev Q3 : List (Nat × (List AV → Ores)) := (61, spR e61 (fun p => (.bool (p.2.1.length == p.2.2.length), none)) (fun p => (p.2.1 = p.2.2 ∧ p.2.1.length < big ∧ ∀ d ∈ p.2.1, OkM d) ∨ p.2.1.length ≠ p.2.2.length)) :: Q2
theorem kq3 : OrcOK Tryz.prog (GG t) (orcOf Q3) := by
  refine orc_con _ _ _ ok61 ?_ kq2
  rintro ⟨⟨b1, b2⟩, w1, w2⟩ h
  rcases h with ⟨h1, h2, h3⟩ | h
  · simp only at h1 h2 h3
    subst h1
    refine ⟨w1.length + 1, ?_⟩
    simp only [beq_self_eq_true]
    exact ev61 b1 b2 w1 h2 (Nat.lt_succ_self _) fun m hm M => spC_v eMM_inj m (by repeat first | exact .here | refine .there ?_ rfl) (by exact h3 m hm) (by simp [eMM]) (by rfl) M
  · simp only at h
    refine ⟨1, ?_⟩
    have hb : (w1.length == w2.length) = false := by simpa using h
    simp only [hb]
    exact ev61n b1 b2 w1 w2 h
end
section
variable {t : Nat} {N : Nat}
noncomputable abbrev BQ (t N k : Nat) : Caller := BW (GG t) (orcOf Q3) N k
theorem q22e {k : Nat} {O : List Obj} {R : List Arr} {i1 i2 : Nat} {a1 a2 : Option Nat} {w : List Mc} (h1 : SetAt O R i1 a1 w) (h2 : SetAt O R i2 a2 w) (hg : Gd w) :
    BQ t N (k + 2) 22 [.ptr i1 0, .ptr i2 0] ⟨O, R⟩ = some (.bool true, ⟨O, R⟩) := by
  rw [BQ, bw_in (cf := c22) (by unfold orcW; split <;> rfl) rfl rfl rfl]
  refine ev22 w w true h1 h2 fun s1 s2 M => bw_sp (spC_v e61_inj ((isF s1, isF s2), w, w) (by repeat first | exact .here | refine .there ?_ rfl) (by exact .inl ⟨rfl, by have := hg.len; show w.length < big; unfold big; omega, hg.ok⟩) (by exact a61 s1 s2 w w) (by simp) M)
theorem q22d {k : Nat} {O : List Obj} {R : List Arr} {i1 i2 : Nat} {a1 a2 : Option Nat} {w1 w2 : List Mc} (h1 : SetAt O R i1 a1 w1) (h2 : SetAt O R i2 a2 w2) (hl : w1.length ≠ w2.length) :
    BQ t N (k + 2) 22 [.ptr i1 0, .ptr i2 0] ⟨O, R⟩ = some (.bool false, ⟨O, R⟩) := by
  rw [BQ, bw_in (cf := c22) (by unfold orcW; split <;> rfl) rfl rfl rfl]
  refine ev22 w1 w2 false h1 h2 fun s1 s2 M => bw_sp (spC_v e61_inj ((isF s1, isF s2), w1, w2) (by repeat first | exact .here | refine .there ?_ rfl) (by exact .inr hl) (by exact a61 s1 s2 w1 w2) (by simpa using hl) M)
theorem q22nn {k : Nat} (M : Mem) : BQ t N (k + 1) 22 [.nilp, .nilp] M = some (.bool true, M) := by
  rw [BQ, bw_in (cf := c22) (by unfold orcW; split <;> rfl) rfl rfl rfl]
  exact ev22_nn M
theorem q22pn {k : Nat} (i : Nat) (M : Mem) : BQ t N (k + 1) 22 [.ptr i 0, .nilp] M = some (.bool false, M) := by
  rw [BQ, bw_in (cf := c22) (by unfold orcW; split <;> rfl) rfl rfl rfl]
  exact ev22_pn i M
theorem q22np {k : Nat} (i : Nat) (M : Mem) : BQ t N (k + 1) 22 [.nilp, .ptr i 0] M = some (.bool false, M) := by
  rw [BQ, bw_in (cf := c22) (by unfold orcW; split <;> rfl) rfl rfl rfl]
  exact ev22_np i M
def mut7 (f : Nat) : Bool := match f with
  | 71 => true
  | 13 => true
  | 25 => true
  | 41 => true
  | _ => false
noncomputable def T7 : Table := ⟨fns, orcW (orcOf R5), mut7⟩
noncomputable abbrev BR (t N k : Nat) : Caller := (both (GG t) T7 N true k).1
noncomputable abbrev YR (t N k : Nat) := (both (GG t) T7 N true k).2
theorem br_sp {k f : Nat} {ags : List AV} {r : AV × Option Arr} (h : orcW (orcOf R5) f ags = some r) (M : Mem) : BR t N (k + 1) f ags M = takeV true r M := by
  unfold BR
  rw [both]
  have : T7.orc f ags = some r := h
  simp only [this]
theorem br_in {k f : Nat} {ags : List AV} {cf : CFn} (h1 : orcW (orcOf R5) f ags = none) (hf : fns f = some cf) (hp : (cf.pure && !mut7 f && (argL ags).isSome) = false) (M : Mem) :
    BR t N (k + 1) f ags M = callA (GG t) true (BR t N k) (YR t N k) N cf ags M := by
  have e1 : T7.orc f ags = none := h1
  have e2 : T7.fns f = some cf := hf
  have e3 : T7.mutf f = mut7 f := rfl
  unfold BR YR
  rw [both]
  simp only [e1, e2, e3, Bool.true_and, hp, Bool.not_true, Bool.false_and]
  rfl
theorem orcW_v {l : List (Nat × (List AV → Ores))} {f : Nat} {X : Type} {enc : X → List AV} {F : X → AV × Option Arr} {ok : X → Prop} (inj : ∀ x y, enc x = enc y → x = y) (x : X)
    (ho : Has l f (spR enc F ok)) (hx : ok x) {ags : List AV} (ha : argL ags = some (enc x)) : orcW (orcOf l) f ags = some (F x) := by
  unfold orcW
  rw [ha]
  simp only [ho.eq, spR_at inj hx]
theorem takeV_avt (n : Nd) (M : Mem) : takeV true (av n, none) M = some (av n, M) := by cases n; rfl
theorem r25 {k : Nat} (q : Qn) (hq : OkQ q) (hN : q.fr.length < N) (O : List Obj) (R : List Arr) :
    ∃ X Y P, BR t N (k + 2) 25 [qsv q] ⟨O, R⟩ = some (.agg (qco q P), ⟨O ++ X, R ++ Y⟩) ∧ PRowF R.length (R ++ Y) P q.fr := by
  rw [br_in (cf := c25) (by unfold orcW; split <;> rfl) rfl (by rfl)]
  exact ev25m q hq.fr hN fun M => (br_sp (orcW_v av1_inj q.bd (by repeat first | exact .here | refine .there ?_ rfl) (by exact hq.bd) (by exact a1 _)) M).trans (takeV_avt _ M)
theorem r13 {k : Nat} (m : Mc) (hm : OkM m) (hN : m.ps.length < N) (O : List Obj) (R : List Arr) :
    ∃ X Y P, BR t N (k + 3) 13 [mcv m] ⟨O, R⟩ = some (.agg (mco m P), ⟨O ++ X, R ++ Y⟩) ∧ PRowF R.length (R ++ Y) P m.ps := by
  rw [br_in (cf := c13) (by unfold orcW; split <;> rfl) rfl (by rfl)]
  exact ev13m m fun X => r25 ⟨m.ps, m.bd⟩ hm.q hN (O ++ X) R
theorem r41 {k : Nat} (m : Mc) (hm : OkM m) (O : List Obj) (R : List Arr) :
    ∃ X Y P, BR t N (k + 2) 41 [mcv m] ⟨O, R⟩ = some (.agg (mco m P), ⟨O ++ X, R ++ Y⟩) ∧ PRowF R.length (R ++ Y) P m.ps := by
  rw [br_in (cf := c41) (by unfold orcW; split <;> rfl) rfl (by rfl)]
  have h70 : Has R5 70 (cloneA 74 2) := (by repeat first | exact .here | refine .there ?_ rfl)
  refine ev41m m (fun h M => ?_) (fun hne M => ?_) fun M => (br_sp (orcW_v av1_inj m.bd (by repeat first | exact .here | refine .there ?_ rfl) (by exact hm.bd) (by exact a1 _)) M).trans (takeV_avt _ M)
  · have e : orcW (orcOf R5) 70 [.slc .shared []] = some (.slc .full [], none) := by
      unfold orcW
      have : argL [.slc .shared []] = some [.slc .shared []] := rfl
      simp only [this, h70.eq]
      rfl
    rw [br_sp e]
    rfl
  · obtain ⟨v, vs, hv⟩ := List.exists_cons_of_ne_nil hne
    have hb := hm.ps
    unfold big at hb
    have b1 : (vs.length + 1) * 4096 ≤ 140737488355328 := by rw [hv] at hb; simp at hb; omega
    have e : orcW (orcOf R5) 70 [.slc .shared (m.ps.map vrv)] = some (.slc .shared (m.ps.map vrv), some (.app m.ps.length 74 2)) := by
      unfold orcW
      have : argL [.slc .shared (m.ps.map vrv)] = some [.slc .shared (m.ps.map vrv)] := by simp
      simp only [this, h70.eq, hv]
      simp [cloneA, b1]
    rw [br_sp e]
    have hl : 0 < m.ps.length := by rw [hv]; simp
    simp only [takeV, flat_vrs, plain_vrs, Bool.true_and]
    simp [hl, rwV]
theorem r45 {k : Nat} {O : List Obj} {R : List Arr} {p : Nat} {x : Str} (hp : O[p]? = some (.cells [.str x])) (m : Mc) (X : List Obj) :
    BR t N (k + 1) 45 [mcv m, .ptr p 0] ⟨O ++ X, R⟩ = some (.bool (m.nm == x), ⟨O ++ X ++ [.cells (mcc m)], R⟩) := by
  rw [br_in (cf := c45) (by unfold orcW; split <;> rfl) rfl (by rfl)]
  exact ev45m m (get_old hp X)
theorem r15 {k : Nat} {O : List Obj} {R : List Arr} {id : Nat} {a : Option Nat} {w : List Mc} (hs : SetAt O R id a w) (hg : Gd w) (hN : 65 < N) (x : Str) :
    match fnd w x with
    | none => Gr (BR t N (k + 3) 15 [.ptr id 0, .str x] ⟨O, R⟩) (.tup [mc0, .bool false]) O R
    | some d => ∃ X Y P, BR t N (k + 3) 15 [.ptr id 0, .str x] ⟨O, R⟩ = some (.tup [.agg (mco d P), .bool true], ⟨O ++ X, R ++ Y⟩) ∧ PRowF R.length (R ++ Y) P d.ps := by
  have hl := hg.len
  rw [br_in (cf := c15) (by unfold orcW; split <;> rfl) rfl (by rfl)]
  refine ev15m w x hs (fun sp X p hp => ?_) (fun d hd X => r41 d (hg.ok d hd) (O ++ X) R)
  rw [br_in (cf := c44) (by unfold orcW; split <;> rfl) rfl (by rw [argL_fnp]; rfl)]
  exact ev44m w sp x hp (by unfold big; omega) (by omega) fun m Y => r45 hp m Y
theorem r28 {k : Nat} {O : List Obj} {R : List Arr} {id : Nat} {a : Option Nat} {w : List Mc} (hs : SetAt O R id a w) (hg : Gd w) (hN : 65 < N) :
    ∃ X Y P, BR t N (k + 1) 28 [.ptr id 0] ⟨O, R⟩ = some (P, ⟨O ++ X, R ++ Y⟩) ∧ NRowF R.length (R ++ Y) P (w.map Mc.nm) := by
  have hl := hg.len
  rw [br_in (cf := c28) (by unfold orcW; split <;> rfl) rfl (by rfl)]
  exact ev28m w hs (by unfold big; omega) (by omega)
theorem r15n {k : Nat} (x : Str) (O : List Obj) (R : List Arr) : Gr (BR t N (k + 1) 15 [.nilp, .str x] ⟨O, R⟩) (.tup [mc0, .bool false]) O R := by
  rw [br_in (cf := c15) (by unfold orcW; split <;> rfl) rfl (by rfl)]
  exact ev15_nil x O R
theorem r28n {k : Nat} (M : Mem) : BR t N (k + 1) 28 [.nilp] M = some (.slc .full [], M) := by
  rw [br_in (cf := c28) (by unfold orcW; split <;> rfl) rfl (by rfl)]
  exact ev28_nil M
end
theorem deepL_plain (M : Mem) : ∀ (cs : List AV) (k : Nat), plainL cs = true → cs.length + 2 ≤ k → deepL M k cs = some cs
  | [], k, _, h => by
    obtain ⟨k, rfl⟩ := Nat.exists_eq_succ_of_ne_zero (n := k) (by omega)
    simp [deepL]
  | x :: cs, k, hp, h => by
    simp only [List.length_cons] at h
    obtain ⟨k, rfl⟩ : ∃ j, k = j + 2 := ⟨k - 2, by omega⟩
    have ih := fun hp => deepL_plain M cs (k + 1) hp (by omega)
    cases x <;> simp [plainL] at hp <;> simp [deepL, deep, pureV, ih hp]
theorem chunk_vrs : ∀ ps : List Vr, chunk 2 (.ag 2) ps.length (ps.flatMap vrc) = some (ps.map vrv)
  | [] => rfl
  | v :: ps => by
    have ih := chunk_vrs ps
    rw [List.flatMap_cons]
    simp only [vrc, List.cons_append, List.nil_append, List.length_cons, chunk, List.take_succ_cons, List.take_zero, List.drop_succ_cons, List.drop_zero]
    have : unit (.ag 2) [AV.str v.nm, AV.int .i64 v.so] = some (vrv v) := rfl
    simp only [this, ih]
    rfl
theorem deep_row {O : List Obj} {R : List Arr} {a g : Nat} {ps : List Vr} (h : R[a]? = some (rwV g ps)) (hl : ps.length ≤ 10) : deep ⟨O, R⟩ 4000 (.osl a g 0 ps.length) = some (.slc .shared (ps.map vrv)) := by
  have h1 := row_get h O
  have hf := fm_len ps
  have h2 : (ps.flatMap vrc).take (ps.length * 2) = ps.flatMap vrc := List.take_of_length_le (by omega)
  have h3 := deepL_plain ⟨O, R⟩ (ps.flatMap vrc) 3999 (plain_vrs ps) (by omega)
  have hz : Lay.sz (.ag 2) = 2 := rfl
  rw [deep]
  simp only [h1, hz, Nat.zero_add, Nat.zero_mul, List.drop_zero, h2, h3, chunk_vrs]
  rw [if_pos (by omega)]
theorem spR_none {X : Type} {enc : X → List AV} {F : X → AV × Option Arr} {ok : X → Prop} {ags : List AV} (h : ∀ x, ags ≠ enc x) : spR enc F ok ags = none := by
  unfold spR
  rw [dif_neg]
  rintro ⟨x, hx, -⟩
  exact h x hx
section
variable {G : Nat → Option AV} {cl : Caller} {yl : Nat → List AV → Mem → Option (AV × Mem)} {N : Nat}
theorem inPl_ne {mu : Bool} {f0 f : Nat} {cf : CFn} {c1 : Caller} {y1 : Nat → List AV → Mem → Option (AV × Mem)} {ags : List AV} {M : Mem} (h : Nat.beq f f0 = false) : inPl G mu N f0 cf c1 y1 cl f ags M = cl f ags M := by
  unfold inPl
  rw [h]
theorem inPl_eq {mu : Bool} {f0 : Nat} {cf : CFn} {c1 : Caller} {y1 : Nat → List AV → Mem → Option (AV × Mem)} {ags : List AV} {M : Mem} : inPl G mu N f0 cf c1 y1 cl f0 ags M = callA G mu c1 y1 N cf ags M := by
  unfold inPl
  have : Nat.beq f0 f0 = true := by simp
  rw [this]
theorem ev37f (hN : 0 < N) : pureA G false cl yl N c37 [.slc .full []] = some (.int .i64 0, none) := by
  obtain ⟨n, rfl⟩ := Nat.exists_eq_succ_of_ne_zero (n := N) (by omega)
  simp -implicitDefEqProofs [c37, c37b0, iter]
theorem ev40f (hN : 0 < N) (O : List Obj) (R : List Arr) : callA G false cl yl N c40 [.slc .full []] ⟨O, R⟩ = some (.fn 98 [] [], ⟨O, R⟩) := by
  obtain ⟨n, rfl⟩ := Nat.exists_eq_succ_of_ne_zero (n := N) (by omega)
  simp -implicitDefEqProofs [c40, c40b0, iter]
end
section
variable {t : Nat} {N : Nat}
theorem p92 {k : Nat} {O : List Obj} {R : List Arr} {p : Nat} {v : Vr} (hp : O[p]? = some (.cells (vrc v))) (o : Vr) (X : List Obj) :
    BP t N (k + 1) 92 [vrv o, .ptr p 0] ⟨O ++ X, R⟩ = some (.bool (o.nm == v.nm), ⟨O ++ X ++ [.cells (vrc o)], R⟩) := by
  rw [BP, bw_in (cf := c92) (by unfold orcW; split <;> rfl) rfl rfl rfl]
  exact ev92 o (get_old hp X)
theorem p91o {k : Nat} {O : List Obj} {R : List Arr} {p a g i : Nat} {v : Vr} {ps : List Vr} (hp : O[p]? = some (.cells (vrc v))) (hr : R[a]? = some (rwV g ps)) (hi : i ≤ ps.length) (hb : ps.length < big) (hN : ps.length < N) :
    Gr (BP t N (k + 3) 91 [headP a g i, .fn 92 [] [.ptr p 0]] ⟨O, R⟩) (.bool ((ps.take i).any (fun o => o.nm == v.nm))) O R := by
  by_cases h0 : i = 0
  · subst h0
    have e : headP a g 0 = .slc .shared (([] : List Vr).map vrv) := rfl
    rw [e, BP, bw_in (cf := c91) (by unfold orcW; split <;> rfl) rfl rfl (by rw [argL_fnp]; rfl)]
    refine ev91o _ _ ?_
    rw [bw_in (cf := c153) (by unfold orcW; split <;> rfl) rfl rfl (by rw [argL_fnp]; rfl)]
    exact ev153 [] v hp (by show 0 < big; unfold big; omega) (by show 0 < N; omega) fun o X => p92 hp o X
  · have e : headP a g i = .osl a g 0 i := if_neg h0
    rw [e, BP, bw_in (cf := c91) (by unfold orcW; split <;> rfl) rfl rfl (by rfl)]
    refine ev91o _ _ ?_
    rw [bw_in (cf := c153) (by unfold orcW; split <;> rfl) rfl rfl (by rfl)]
    exact ev153o ps i hi (by omega) v hr hb hN fun o X => p92 hp o X
theorem p37o {k : Nat} {O : List Obj} {R : List Arr} {P : AV} {ps : List Vr} (hP : PRow R P ps) (hb : ps.length < big) (hN : ps.length < N) :
    Gr (BP t N (k + 4) 37 [P] ⟨O, R⟩) (.int .i64 (parE ps)) O R := by
  rcases hP with ⟨rfl, rfl⟩ | ⟨hne, a, g, rfl, hr⟩
  · have e : orcW (orcOf N7) 37 [.slc .full []] = none := by
      unfold orcW
      have h1 : argL [.slc .full []] = some [.slc .full []] := rfl
      have h2 : Has N7 37 sp37 := (by repeat first | exact .here | refine .there ?_ rfl)
      simp only [h1, h2.eq]
      exact spR_none fun l h => by simp [eVs] at h
    refine ⟨[], ?_⟩
    rw [List.append_nil]
    have h0 : parE [] = 0 := rfl
    rw [h0]
    exact bw_pure (cf := c37) e rfl rfl rfl rfl (ev37f (by omega)) _
  · have e : orcW (orcOf N7) 37 [.osl a g 0 ps.length] = none := by
      have : argL [.osl a g 0 ps.length] = none := rfl
      unfold orcW
      simp only [this]
    rw [BP, bw_in (cf := c37) e rfl rfl (by rfl)]
    refine ev37o ps hne hr hb hN (fun v hv M => ?_) fun i v X hi => ?_
    · exact bw_sp (spC_v str1_inj v.nm (by repeat first | exact .here | refine .there ?_ rfl) (by exact trivial) (by rfl) (by rfl) M)
    · exact p91o (O := O ++ X ++ [.cells (vrc v)]) (p := (O ++ X).length) (v := v) (by simp) hr hi hb hN
theorem p40o {k : Nat} {O : List Obj} {R : List Arr} {P : AV} {ps : List Vr} (hP : PRow R P ps) (hb : ps.length < big) (hN : ps.length < N) :
    ∃ c X, BP t N (k + 2) 40 [P] ⟨O, R⟩ = some (c, ⟨O ++ X, R⟩) ∧ Sc (O ++ X) c ps := by
  rw [BP]
  rcases hP with ⟨rfl, rfl⟩ | ⟨hne, a, g, rfl, hr⟩
  · rw [bw_in (cf := c40) (by unfold orcW; split <;> rfl) rfl rfl rfl]
    exact ⟨_, [], by rw [List.append_nil]; exact ev40f (by omega) O R, .nil⟩
  · rw [bw_in (cf := c40) (by unfold orcW; split <;> rfl) rfl rfl rfl]
    exact ev40o ps hr hb hN fun c v X hc => p97 v hc
noncomputable def C70 (t N : Nat) : Caller := atRow 70 (cloneA 74 2) (BP t N 1000)
noncomputable def C41 (t N : Nat) : Caller := inPl (GG t) false N 41 c41 (C70 t N) (YP t N 1000) (BP t N 1000)
theorem c70_row {O : List Obj} {R : List Arr} {a g : Nat} {ps : List Vr} (h : R[a]? = some (rwV g ps)) (hl : ps.length ≤ 10) (hne : ps ≠ []) :
    C70 t N 70 [.osl a g 0 ps.length] ⟨O, R⟩ = some (.slc (.own R.length) (ps.map vrv), ⟨O, R ++ [.app ps.length 74 2]⟩) := by
  have h0 : 0 < ps.length := List.length_pos_iff.2 hne
  have hc : cloneA 74 2 [.slc .shared (ps.map vrv)] = some (.slc .shared (ps.map vrv), some (.app ps.length 74 2)) := by
    obtain ⟨v, vs, rfl⟩ := List.exists_cons_of_ne_nil hne
    have b1 : (vs.length + 1) * 4096 ≤ 140737488355328 := by simp at hl; omega
    simp [cloneA, b1]
  unfold C70 atRow
  have hb : Nat.beq 70 70 = true := rfl
  simp only [hb, deep_row h hl, flat_vrs, plain_vrs, hc, eqAL_self]
  rw [if_pos (by simp; exact h0)]
  rfl
theorem c70_full (M : Mem) : C70 t N 70 [.slc .full []] M = some (.slc .full [], M) := by
  have h2 : Has N7 70 (cloneA 74 2) := (by repeat first | exact .here | refine .there ?_ rfl)
  have h1 : argL [.slc .full []] = some [.slc .full []] := rfl
  have : spC (orcOf N7) 70 [.slc .full []] M = some (.slc .full [], M) := by
    unfold spC
    simp only [h1, h2.eq]
    rfl
  exact bw_sp (k := 999) this
theorem c41_row {m : Mc} (hm : OkM m) (hl : m.ps.length ≤ 10) {O : List Obj} {R : List Arr} {P : AV} (hP : PRow R P m.ps) :
    ∃ P' X Y, C41 t N 41 [.agg (mco m P)] ⟨O, R⟩ = some (.agg (mco m P'), ⟨O ++ X, R ++ Y⟩) ∧ pureV P' = some (.slc .shared (m.ps.map vrv)) := by
  unfold C41
  rw [inPl_eq]
  refine ev41o m hP c70_full (fun X a g hne hr => c70_row hr hl hne) fun M => ?_
  have : BP t N 1000 99 [av m.bd] M = some (av m.bd, M) := bw_sp (k := 999) (spC_v av1_inj m.bd (by repeat first | exact .here | refine .there ?_ rfl) (by exact hm.bd) (by exact a1 _) (by cases m.bd; rfl) M)
  exact this
theorem c12p {O : List Obj} {R : List Arr} {id : Nat} {a : Option Nat} {w : List Mc} {P : AV} {m : Mc} (hs : SetAt O R id a w) (hg : Gd w) (hm : OkM m) (hl : m.ps.length ≤ 10) (hP : PRow R P m.ps) (hN : 65 < N) (hbN : bk m.bd < N) : Cs12p (C41 t N) w m P id O R := by
  have hlen := hg.len
  have hb : w.length < big := by unfold big; omega
  have hwN : w.length < N := by omega
  unfold C41
  refine ⟨fun X => ?_, fun M => ?_, fun X => ?_, fun M => ?_, fun X => ?_, fun h1 h2 X c hc => ?_, fun X => ?_⟩
  · rw [inPl_ne rfl]
    exact p15 (k := 997) (hs.growO X) hb hwN hg.ok m.nm
  · rw [inPl_ne rfl]
    exact bw_sp (k := 999) (spC_v str1_inj m.nm (by repeat first | exact .here | refine .there ?_ rfl) (by exact trivial) (by rfl) (by rfl) M)
  · rw [inPl_ne rfl]
    exact p37o (k := 996) hP hm.ps (by omega)
  · rw [inPl_ne rfl]
    exact bw_sp (k := 999) (spC_v av1_inj m.bd (by repeat first | exact .here | refine .there ?_ rfl) (by exact hm.bd) (by exact a1 _) (by rfl) M)
  · rw [inPl_ne rfl]
    exact p40o (k := 998) hP hm.ps (by omega)
  · rw [inPl_ne rfl]
    have hd := (chk_lim h1).2
    have hp := parE_len h2
    exact p39 hb hwN hg.ok true _ m.bd (Nat.le_refl _) (chk_vd h1) hm.bd hbN m.ps (parE_ok h2) _ _ R id a c (hs.growO X) hc (by omega)
  · obtain ⟨P', X', Y', h1, h2⟩ := c41_row (t := t) (N := N) hm hl (O := O ++ X) hP
    exact ⟨P', X', Y', h1, h2⟩
end
def s13 (f : Nat) : Bool := Nat.beq f 13 || Nat.beq f 15 || Nat.beq f 28
def s22 (f : Nat) : Bool := Nat.beq f 22
section
variable {G : Nat → Option AV}
theorem twoC_t {s : Nat → Bool} {c1 c2 : Caller} {f : Nat} {ags : List AV} {M : Mem} (h : s f = true) : twoC s c1 c2 f ags M = c1 f ags M := by
  unfold twoC
  rw [h]
theorem twoC_f {s : Nat → Bool} {c1 c2 : Caller} {f : Nat} {ags : List AV} {M : Mem} (h : s f = false) : twoC s c1 c2 f ags M = c2 f ags M := by
  unfold twoC
  rw [h]
end
section
variable {t : Nat} {N : Nat}
noncomputable def K12 (t N : Nat) : Caller := inPl (GG t) false N 12 c12 (C41 t N) (YP t N 1000) (BP t N 1001)
noncomputable def K7 (t N : Nat) : Caller := twoC s13 (BR t N 1000) (twoC s22 (BQ t N 1000) (K12 t N))
theorem bp_ok (k : Nat) : CallerOK Tryz.prog (GG t) (BP t N k) ∧ YielderOK Tryz.prog (GG t) (YP t N k) :=
  both_ok (T := TW (orcOf N7)) hmix kis tabOK (orcW_ok o37) k false
theorem c41_ok : CallerOK Tryz.prog (GG t) (C41 t N) :=
  inPl_ok hmix kis ok41 (atRow_ok (fun ags r h => orc70 h) (bp_ok 1000).1) (bp_ok 1000).2 (bp_ok 1000).1
theorem k7_ok : CallerOK Tryz.prog (GG t) (K7 t N) :=
  twoC_ok (both_ok (T := T7) hmix kis tabOK (orcW_ok r5) 1000 true).1 (twoC_ok (both_ok (T := TW (orcOf Q3)) hmix kis tabOK (orcW_ok kq3) 1000 false).1 (inPl_ok hmix kis ok12 c41_ok (bp_ok 1000).2 (bp_ok 1001).1))
theorem k7_bp {f : Nat} {ags : List AV} {M : Mem} (h1 : s13 f = false) (h2 : s22 f = false) (h3 : Nat.beq f 12 = false) : K7 t N f ags M = BP t N 1001 f ags M := by
  unfold K7 K12
  rw [twoC_f h1, twoC_f h2, inPl_ne h3]
theorem k7_22 {ags : List AV} {M : Mem} : K7 t N 22 ags M = BQ t N 1000 22 ags M := by
  unfold K7
  rw [twoC_f rfl, twoC_t rfl]
theorem k7_r {f : Nat} {ags : List AV} {M : Mem} (h : s13 f = true) : K7 t N f ags M = BR t N 1000 f ags M := by
  unfold K7
  rw [twoC_t h]
theorem k7_12 {ags : List AV} {M : Mem} : K7 t N 12 ags M = callA (GG t) false (C41 t N) (YP t N 1000) N c12 ags M := by
  unfold K7 K12
  rw [twoC_f rfl, twoC_f rfl, inPl_eq]
theorem cs7 (l : List Mc) (m : Mc) (hl : ∀ d ∈ l, OkM d) (hm : OkM m) (hN : 65 < N) (hbN : ∀ d ∈ l, bk d.bd < N ∧ d.ps.length < N) (hmN : bk m.bd < N) (hpN : m.ps.length < N) : Cs7 (K7 t N) l m where
  h8 := fun M => (k7_bp rfl rfl rfl).trans (bw_sp (k := 1000) (spC_v eW1_inj l (by repeat first | exact .here | refine .there ?_ rfl) (by exact hl) (by rfl) (by rfl) M))
  h23 := ⟨few m.bd, fun M => (k7_bp rfl rfl rfl).trans (bw_sp (k := 1000) (spC_v av1_inj m.bd (by repeat first | exact .here | refine .there ?_ rfl) (by exact hm.bd) (by exact a1 _) (by rfl) M))⟩
  h9 := fun M => (k7_bp rfl rfl rfl).trans (bw_sp (k := 1000) (spC_v unit_inj () (by repeat first | exact .here | refine .there ?_ rfl) (by exact trivial) (by rfl) (by rfl) M))
  a15 := fun x O R => by
    rw [k7_r rfl]
    exact r15n (k := 999) x O R
  a24 := fun O R => by
    rw [k7_bp rfl rfl rfl, BP, bw_in (cf := c24) (by unfold orcW; split <;> rfl) rfl rfl rfl]
    exact ev24_nil O R
  a18 := fun M => by
    rw [k7_bp rfl rfl rfl, BP, bw_in (cf := c18) (by unfold orcW; split <;> rfl) rfl rfl rfl]
    exact ev18_nil M
  a12 := fun P O R => by
    rw [k7_12]
    exact ev12_nil' _ rfl O R
  a28 := fun M => by
    rw [k7_r rfl]
    exact r28n (k := 999) M
  a26 := fun O R => by
    rw [k7_bp rfl rfl rfl, BP, bw_in (cf := c26) (by unfold orcW; split <;> rfl) rfl rfl rfl]
    exact ev26_nil O R
  a29 := fun M => by
    rw [k7_bp rfl rfl rfl, BP, bw_in (cf := c29) (by unfold orcW; split <;> rfl) rfl rfl rfl]
    exact ev29_nil M
  a22 := fun M => k7_22.trans (q22nn (k := 999) M)
  p22 := fun i M => k7_22.trans (q22pn (k := 999) i M)
  n22 := fun i M => k7_22.trans (q22np (k := 999) i M)
  h13 := fun O R => by
    rw [k7_r rfl]
    exact r13 (k := 997) m hm hpN O R
  h17 := fun h5 O R => by
    rw [k7_bp rfl rfl rfl, BP, bw_in (cf := c17) (by unfold orcW; split <;> rfl) rfl rfl rfl]
    exact ev17 l h5 hl (by omega) (cs3 l hl hN hbN) O R
  h29 := fun w O R id a hs hg => by
    have := hg.len
    rw [k7_bp rfl rfl rfl, BP, bw_in (cf := c29) (by unfold orcW; split <;> rfl) rfl rfl rfl]
    exact ev29 w hs (by unfold big; omega) (by omega) (fun d hd M => bw_sp (k := 999) (spC_v eM_inj d (by repeat first | exact .here | refine .there ?_ rfl) (by exact hg.ok d hd) (by exact aM d) (by rfl) M)) (p10 (k := 999) O R)
  e22 := fun w O R i1 i2 a1 a2 h1 h2 hg => k7_22.trans (q22e (k := 998) h1 h2 hg)
  d22 := fun w1 w2 O R i1 i2 a1 a2 h1 h2 _ _ hl => k7_22.trans (q22d (k := 998) h1 h2 hl)
  h12y := fun w O R id a P hs hg h10 hP hc => by
    rw [k7_12]
    exact ev12p_yes w m hs (c12p hs hg hm h10 hP hN hmN) hc
  h12n := fun w O R id a P hs hg h10 hP hc => by
    rw [k7_12]
    exact ev12p_no w m hs (c12p hs hg hm h10 hP hN hmN) hc
  h28 := fun w O R id a hs hg => by
    rw [k7_r rfl]
    exact r28 (k := 999) hs hg hN
  h15 := fun w O R id a x hs hg => by
    rw [k7_r rfl]
    exact r15 (k := 997) hs hg hN x
  h14 := fun w O R id a sw hs hg hsw => by
    rw [k7_bp rfl rfl rfl]
    exact p14 (k := 997) sw hsw hs hg hN
theorem orc7 (l : List Mc) (m : Mc) (hl : ∀ d ∈ l, OkM d) (hm : OkM m) : OrcAt Tryz.prog (GG t) 7 [.slc .shared (l.map mcv), mcv m] (.bool true, none) := by
  have ho := hm.bd
  have hp := hm.ps
  have hr := ev7 (G := GG t) (cl := K7 t (big + 100)) (yl := YP t (big + 100) 1000) (N := big + 100) l m hm
    (cs7 l m hl hm (by unfold big; omega) (fun d hd => ⟨by have := (hl d hd).bd; omega, by have := (hl d hd).ps; omega⟩) (by omega) (by omega)) (by unfold big; omega)
  intro U bs es w args hG hV hfr
  exact good_pgood (codes_ok hmix kis k7_ok (bp_ok 1000).2).1 ok7 hr hG hV hfr
end
end Go.Proofs.Ae
