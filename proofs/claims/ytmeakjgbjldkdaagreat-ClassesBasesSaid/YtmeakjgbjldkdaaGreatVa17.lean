/- A part of what is proved: AwkD, Awk_k89, Awk_k92, Awk_k91a, Awk_k91b, Awk_k51, Awk_k55, Awk_k19, Awk_k26, Awk_k30, Awk_k35, Awk_k25a, Awk_k25b, Awk_k13, OnceW, SloW, SloT, OnceD, OnceS, SloS, RunP. No condition. -/
import Derived.Test.YtmeakjgbjldkdaaGreatVa16
import Derived.Test.YtmeakjgbjldkdaaGreatProg
import Derived.Tactics
import Derived.Tactics2
import Derived.Defers
import Derived.Laws.Pointers
import Derived.Laws.LoneSync
import Derived.Laws.NewBlocks
import Derived.RegionTactic
import Derived.RegionCalls
import Derived.ChangeAlike
import Derived.KernelRfl
set_option maxRecDepth 100000
set_option maxHeartbeats 16000000
namespace Go.Proofs.YtmeakjgbjldkdaaGreat.Ai
open Go
noncomputable def Qt6 : List AV:=[.str [73],.bool true,.str [],.list 0 .full [],.list 0 .full [],.list 0 .full [],.list 0 .full [],.list 11 .dead [[.str [102],.list 8 .dead [[.str [97],Qz 1,.str [],.bool false,.list 0 .full [],.list 0 .full [],Qz 23,Qz 20]],Qz 1,.str [],.bool false,.list 0 .full [],.list 0 .full [],Qz 29,.list 0 .full [],.bool true,Qz 18]],Qz 10]
noncomputable def Qt7 : List AV:=[.str [65],.bool false,.str [],.list 1 .dead [[.str [73]]],.list 9 .dead [[.str [110],Qz 1,.str [],.bool false,.list 0 .full [],.list 0 .full [],Qz 68,.bool true,Qz 65]],.list 0 .full [],.list 0 .full [],.list 11 .dead [[.str [102],.list 8 .dead [[.str [97],Qz 1,.str [],.bool false,.list 0 .full [],.list 0 .full [],Qz 82,Qz 79]],Qz 1,.str [],.bool false,.list 0 .full [],.list 0 .full [],Qz 88,.list 7 .dead [[.str [114,101,116,117,114,110],.str [],.list 0 .full [],.list 5 .dead [[.str [118,97,114],.str [97],.list 0 .full [],.list 0 .full [],Qz 101]],.list 0 .full [],.list 0 .full [],Qz 94]],.bool false,Qz 77]],Qz 42]
noncomputable def Qt1 : List (List AV):=[Qt6,Qt7,[.str [66],.bool false,.str [65],.list 0 .full [],.list 0 .full [],.list 0 .full [],.list 0 .full [],.list 0 .full [],Qz 114]]
noncomputable def Qt2 : List (List AV):=[[Qz 1,.str [105,110,116,101,114,102,97,99,101],Qz 0],[Qz 1,.str [73],Qz 10],[Qz 3,.str [123],Qz 12],[Qz 1,.str [100,101,102],Qz 14],[Qz 1,.str [102],Qz 18],[Qz 3,.str [40],Qz 19],[Qz 1,.str [97],Qz 20],[Qz 3,.str [58],Qz 21],[Qz 1,.str [105,110,116],Qz 23],[Qz 3,.str [41],Qz 26],[Qz 3,.str [58],Qz 27],[Qz 1,.str [105,110,116],Qz 29],[Qz 3,.str [59],Qz 32],[Qz 3,.str [125],Qz 34],[Qz 1,.str [99,108,97,115,115],Qz 36],[Qz 1,.str [65],Qz 42],[Qz 1,.str [105,109,112,108,101,109,101,110,116,115],Qz 44],[Qz 1,.str [73],Qz 55],[Qz 3,.str [123],Qz 57],[Qz 1,.str [102,105,110,97,108],Qz 59],[Qz 1,.str [110],Qz 65],[Qz 3,.str [58],Qz 66],[Qz 1,.str [105,110,116],Qz 68],[Qz 3,.str [59],Qz 71],[Qz 1,.str [100,101,102],Qz 73],[Qz 1,.str [102],Qz 77],[Qz 3,.str [40],Qz 78],[Qz 1,.str [97],Qz 79],[Qz 3,.str [58],Qz 80],[Qz 1,.str [105,110,116],Qz 82],[Qz 3,.str [41],Qz 85],[Qz 3,.str [58],Qz 86],[Qz 1,.str [105,110,116],Qz 88],[Qz 3,.str [123],Qz 92],[Qz 1,.str [114,101,116,117,114,110],Qz 94],[Qz 1,.str [97],Qz 101],[Qz 3,.str [59],Qz 102],[Qz 3,.str [125],Qz 104],[Qz 3,.str [125],Qz 106],[Qz 1,.str [99,108,97,115,115],Qz 108],[Qz 1,.str [66],Qz 114],[Qz 1,.str [101,120,116,101,110,100,115],Qz 116],[Qz 1,.str [65],Qz 124],[Qz 3,.str [123],Qz 126],[Qz 3,.str [125],Qz 128],[Qz 1,.str [109,97,105,110],Qz 130],[Qz 3,.str [123],Qz 135],[Qz 3,.str [125],Qz 137]]
noncomputable def Qt3 : List AV:=[.str [102,40,105,110,116,41],.str [65],.str [102],.list 8 .dead [[.str [97],Qz 1,.str [],.bool false,.list 0 .full [],.list 0 .full [],Qz 82,Qz 79]],Qz 1,.str [],.bool false,.list 0 .full [],.list 0 .full [],Qz 88,.list 7 .dead [[.str [114,101,116,117,114,110],.str [],.list 0 .full [],.list 5 .dead [[.str [118,97,114],.str [97],.list 0 .full [],.list 0 .full [],Qz 101]],.list 0 .full [],.list 0 .full [],Qz 94]],.bool false,Qz 77]
noncomputable def Qt4 : List Blk:=[.cells [.list 9 .dead Qt1,.list 0 .full []],.cells [Qz 0,Qz 0],.cells [Qz 0,Qz 0],.cells [.list 9 .dead Qt1,.list 0 .full []],.map [([73],Qz 0),([65],Qz 1),([66],Qz 2)],.cells [.list 9 .dead Qt1,.map 4,.list 1 (.row 11 3) [[.list 0 .full []],[.list 1 .dead [[Qz 0]]],[.list 1 .dead [[Qz 0],[Qz 1]]]],.int .u32 1,.int .i32 0,.int .u32 0,.list 1 .dead [[.str [102,40,105,110,116,41]]]],.cells [.func 100 [.ptr 5 0] [],.func 101 [.ptr 5 0] [],.func 102 [.ptr 5 0] [],.func 103 [.ptr 5 0] []],.cells [Qz 0,Qz 0],.cells [Qz 0,Qz 0],.cells [Qz 0,Qz 0],.cells [Qz 0,Qz 0],.cells [Qz 0,Qz 0],.cells [Qz 0,Qz 0],.cells [Qz 0,Qz 0],.cells [Qz 0,Qz 0],.cells [Qz 0,Qz 0],.cells [Qz 0,Qz 0],.cells Qt3,.cells [.str [110],Qz 1,.str [],.bool false,.list 0 .full [],.list 0 .full [],Qz 68,.bool true,Qz 65]]
noncomputable def Qt9 : List AV:=[.list 9 .dead Qt1,.map 4,.list 1 (.row 11 3) [[.list 0 .full []],[.list 1 .dead [[Qz 0]]],[.list 1 .dead [[Qz 0],[Qz 1]]]],.int .u32 0,.int .i32 0,.int .u32 0,.list 0 .full []]
noncomputable def Qt5 : List Blk:=[.cells [.list 9 .dead Qt1,.list 0 .full []],.cells [Qz 0,Qz 0],.cells [Qz 0,Qz 0],.cells [.list 9 .dead Qt1,.list 0 .full []],.map [([73],Qz 0),([65],Qz 1),([66],Qz 2)],.cells Qt9,.cells [.func 100 [.ptr 5 0] [],.func 101 [.ptr 5 0] [],.func 102 [.ptr 5 0] [],.func 103 [.ptr 5 0] []],.cells [Qz 0,Qz 0],.cells [Qz 0,Qz 0],.cells [Qz 0,Qz 0],.cells [Qz 0,Qz 0],.cells [Qz 0,Qz 0],.cells [Qz 0,Qz 0],.cells [Qz 0,Qz 0],.cells [Qz 0,Qz 0],.cells [Qz 0,Qz 0],.cells [Qz 0,Qz 0],.cells Qt3,.cells [.str [110],Qz 1,.str [],.bool false,.list 0 .full [],.list 0 .full [],Qz 68,.bool true,Qz 65]]
noncomputable def Qt8 : List AV:=[.str [105,110,116,101,114,102,97,99,101,32,73,32,123,32,100,101,102,32,102,40,97,58,32,105,110,116,41,58,32,105,110,116,59,32,125,32,99,108,97,115,115,32,65,32,105,109,112,108,101,109,101,110,116,115,32,73,32,123,32,102,105,110,97,108,32,110,58,32,105,110,116,59,32,100,101,102,32,102,40,97,58,32,105,110,116,41,58,32,105,110,116,32,123,32,114,101,116,117,114,110,32,97,59,32,125,32,125,32,99,108,97,115,115,32,66,32,101,120,116,101,110,100,115,32,65,32,123,32,125,32,109,97,105,110,32,123,32,125]]
noncomputable def Qt10 : List Blk:=[.cells [.list 9 .dead Qt1,.list 0 .full []],.cells [Qz 0,Qz 0],.cells [Qz 0,Qz 0],.cells [.list 9 .dead Qt1,.list 0 .full []],.map [([73],Qz 0),([65],Qz 1),([66],Qz 2)],.cells Qt9,.cells [.func 100 [.ptr 5 0] [],.func 101 [.ptr 5 0] [],.func 102 [.ptr 5 0] [],.func 103 [.ptr 5 0] []],.cells [Qz 0,Qz 0],.cells [Qz 0,Qz 0],.cells [Qz 0,Qz 0],.cells [Qz 0,Qz 0],.cells [Qz 0,Qz 0],.cells [Qz 0,Qz 0],.cells [Qz 0,Qz 0],.cells [Qz 0,Qz 0],.cells [Qz 0,Qz 0],.cells [Qz 0,Qz 0],.cells [.str [],.str [],.str [],.list 0 .full [],Qz 0,.str [],.bool false,.list 0 .full [],.list 0 .full [],Qz 0,.list 0 .full [],.bool false,Qz 0]]
noncomputable def Qt11 : List Blk:=[.cells [.list 9 .dead Qt1,.list 0 .full []],.cells [Qz 0,Qz 0],.cells [Qz 0,Qz 0],.cells [.list 9 .dead Qt1,.list 0 .full []],.map [([73],Qz 0),([65],Qz 1),([66],Qz 2)],.cells Qt9,.cells [.func 100 [.ptr 5 0] [],.func 101 [.ptr 5 0] [],.func 102 [.ptr 5 0] [],.func 103 [.ptr 5 0] []],.cells [Qz 0,Qz 0],.cells [Qz 0,Qz 0],.cells [Qz 0,Qz 0],.cells [Qz 0,Qz 0],.cells [Qz 0,Qz 0],.cells [Qz 0,Qz 0],.cells [Qz 0,Qz 0],.cells [Qz 0,Qz 0],.cells [Qz 0,Qz 0],.cells [Qz 0,Qz 0],.cells Qt3,.cells [.str [],Qz 0,.str [],.bool false,.list 0 .full [],.list 0 .full [],Qz 0,.bool false,Qz 0]]
noncomputable def Qt12 : List Blk:=[.cells [.list 9 .dead Qt1,.list 0 .full []],.cells [Qz 0,Qz 0],.cells [Qz 0,Qz 0],.cells [.list 9 .dead Qt1,.list 0 .full []],.map [([73],Qz 0),([65],Qz 1),([66],Qz 2)],.cells Qt9,.cells [.func 100 [.ptr 5 0] [],.func 101 [.ptr 5 0] [],.func 102 [.ptr 5 0] [],.func 103 [.ptr 5 0] []],.cells [Qz 0,Qz 0],.cells [Qz 0,Qz 0],.cells [Qz 0,Qz 0],.cells [Qz 0,Qz 0],.cells [Qz 0,Qz 0],.cells [Qz 0,Qz 0],.cells [Qz 0,Qz 0],.cells [Qz 0,Qz 0],.cells [Qz 0,Qz 0],.cells [Qz 0,Qz 0]]
noncomputable def k89 : Kn:=⟨89,Qt8,
 ⟨[.cells [.list 0 .full [],.list 0 .full []],.cells [.list 0 .full [],.list 0 .full []],.cells [.list 0 .full [],.list 0 .full []],.cells [.list 0 .full [],.list 0 .full []]],[]⟩,
 (.ret (.tup [.list 3 (.row 0 48) Qt2,Qz 0,Qz 0])),
 ⟨[.cells [.list 0 .full [],.list 0 .full []],.cells [.list 0 .full [],.list 0 .full []],.cells [.list 0 .full [],.list 0 .full []],.cells [.list 0 .full [],.list 0 .full []]],[48]⟩⟩
noncomputable def k92 : Kn:=⟨92,[.ptr 4 0],
 ⟨[.cells [.list 0 .full [],.list 0 .full []],.cells [.list 0 .full [],.list 0 .full []],.cells [.list 0 .full [],.list 0 .full []],.cells [.list 0 .full [],.list 0 .full []],.cells [.list 3 (.row 0 48) Qt2,Qz 0,Qz 138,Qz 0,Qz 0,Qz 0],.cells [.list 0 .full [],.list 0 .full []]],[48]⟩,
 (.ret (.agg Qt6)),
 ⟨[.cells [.list 0 .full [],.list 0 .full []],.cells [.list 0 .full [],.list 0 .full []],.cells [.list 0 .full [],.list 0 .full []],.cells [.list 0 .full [],.list 0 .full []],.cells [.list 3 (.row 0 48) Qt2,Qz 14,Qz 138,Qz 0,Qz 0,Qz 0],.cells [.list 0 .full [],.list 0 .full []]],[48,1,1]⟩⟩
noncomputable def k91a : Kn:=⟨91,[.ptr 4 0],
 ⟨[.cells [.list 0 .full [],.list 0 .full []],.cells [.list 0 .full [],.list 0 .full []],.cells [.list 0 .full [],.list 0 .full []],.cells [.list 0 .full [],.list 0 .full []],.cells [.list 3 (.row 0 48) Qt2,Qz 14,Qz 138,Qz 0,Qz 0,Qz 0],.cells [.list 9 (.row 3 1) [Qt6],.list 0 .full []]],[48,1,1,1]⟩,
 (.ret (.agg Qt7)),
 ⟨[.cells [.list 0 .full [],.list 0 .full []],.cells [.list 0 .full [],.list 0 .full []],.cells [.list 0 .full [],.list 0 .full []],.cells [.list 0 .full [],.list 0 .full []],.cells [.list 3 (.row 0 48) Qt2,Qz 39,Qz 138,Qz 0,Qz 0,Qz 0],.cells [.list 9 (.row 3 1) [Qt6],.list 0 .full []]],[48,1,1,1,1,1,1,1]⟩⟩
noncomputable def k91b : Kn:=⟨91,[.ptr 4 0],
 ⟨[.cells [.list 0 .full [],.list 0 .full []],.cells [.list 0 .full [],.list 0 .full []],.cells [.list 0 .full [],.list 0 .full []],.cells [.list 0 .full [],.list 0 .full []],.cells [.list 3 (.row 0 48) Qt2,Qz 39,Qz 138,Qz 0,Qz 0,Qz 0],.cells [.list 9 (.row 3 2) [Qt6,Qt7],.list 0 .full []]],[48,1,1,2,1,1,1,1]⟩,
 (.ret (.agg [.str [66],.bool false,.str [65],.list 0 .full [],.list 0 .full [],.list 0 .full [],.list 0 .full [],.list 0 .full [],Qz 114])),
 ⟨[.cells [.list 0 .full [],.list 0 .full []],.cells [.list 0 .full [],.list 0 .full []],.cells [.list 0 .full [],.list 0 .full []],.cells [.list 0 .full [],.list 0 .full []],.cells [.list 3 (.row 0 48) Qt2,Qz 45,Qz 138,Qz 0,Qz 0,Qz 0],.cells [.list 9 (.row 3 2) [Qt6,Qt7],.list 0 .full []]],[48,1,1,2,1,1,1,1]⟩⟩
noncomputable def k51 : Kn:=⟨51,Qt8,
 ⟨[.cells [.list 0 .full [],.list 0 .full []],.cells [.list 0 .full [],.list 0 .full []],.cells [.list 0 .full [],.list 0 .full []]],[]⟩,
 (.ret (.tup [.agg [.list 9 .dead Qt1,.list 0 .full []],Qz 0,Qz 0])),
 ⟨[.cells [.list 0 .full [],.list 0 .full []],.cells [.list 0 .full [],.list 0 .full []],.cells [.list 0 .full [],.list 0 .full []]],[48,1,1,3,1,1,1,1]⟩⟩
noncomputable def k55 : Kn:=⟨55,[.agg [.list 9 .dead Qt1,.list 0 .full []]],
 ⟨[.cells [.list 9 .dead Qt1,.list 0 .full []],.cells [Qz 0,Qz 0]],[48,1,1,3,1,1,1,1]⟩,
 (.ret (.tup [.ptr 5 0,.agg [Qz 0,Qz 0]])),
 ⟨Qt12,[48,1,1,3,1,1,1,1,1,2,1,3,1,1,2,1,2,1,1,1,1,1,1,1,2,1]⟩⟩
noncomputable def k19 : Kn:=⟨19,Qt8,
 ⟨[],[]⟩,
 (.ret (.tup [.ptr 5 0,.list 9 .dead Qt1])),
 ⟨Qt12,[48,1,1,3,1,1,1,1,1,2,1,3,1,1,2,1,2,1,1,1,1,1,1,1,2,1]⟩⟩
noncomputable def k26 : Kn:=⟨26,[.ptr 5 0,.str [66],.str [102,40,105,110,116,41]],
 ⟨Qt10,[48,1,1,3,1,1,1,1,1,2,1,3,1,1,2,1,2,1,1,1,1,1,1,1,2,1]⟩,
 (.ret (.tup [.agg Qt3,.bool true])),
 ⟨Qt10,[48,1,1,3,1,1,1,1,1,2,1,3,1,1,2,1,2,1,1,1,1,1,1,1,2,1,2,1]⟩⟩
noncomputable def k30 : Kn:=⟨30,[.ptr 5 0,.str [66],.str [110]],
 ⟨Qt11,[48,1,1,3,1,1,1,1,1,2,1,3,1,1,2,1,2,1,1,1,1,1,1,1,2,1,2,1]⟩,
 (.ret (.tup [.agg [.str [110],Qz 1,.str [],.bool false,.list 0 .full [],.list 0 .full [],Qz 68,.bool true,Qz 65],.str [65],.bool true])),
 ⟨Qt11,[48,1,1,3,1,1,1,1,1,2,1,3,1,1,2,1,2,1,1,1,1,1,1,1,2,1,2,1,2]⟩⟩
noncomputable def k35 : Kn:=⟨35,[.ptr 5 0,.str [66],.str [73]],
 ⟨Qt5,[48,1,1,3,1,1,1,1,1,2,1,3,1,1,2,1,2,1,1,1,1,1,1,1,2,1,2,1,2]⟩,
 (.ret (.bool true)),
 ⟨Qt5,[48,1,1,3,1,1,1,1,1,2,1,3,1,1,2,1,2,1,1,1,1,1,1,1,2,1,2,1,2]⟩⟩
noncomputable def k25a : Kn:=⟨25,[.ptr 5 0,.str [66]],
 ⟨Qt5,[48,1,1,3,1,1,1,1,1,2,1,3,1,1,2,1,2,1,1,1,1,1,1,1,2,1,2,1,2]⟩,
 (.ret (.list 1 (.row 34 1) [[Qz 1]])),
 ⟨Qt4,[48,1,1,3,1,1,1,1,1,2,1,3,1,1,2,1,2,1,1,1,1,1,1,1,2,1,2,1,2,1,2,1,2,1,1]⟩⟩
noncomputable def k25b : Kn:=⟨25,[.ptr 5 0,.str [66]],
 ⟨Qt4,[48,1,1,3,1,1,1,1,1,2,1,3,1,1,2,1,2,1,1,1,1,1,1,1,2,1,2,1,2,1,2,1,2,1,1]⟩,
 (.ret (.list 1 (.row 37 1) [[Qz 1]])),
 ⟨Qt4,[48,1,1,3,1,1,1,1,1,2,1,3,1,1,2,1,2,1,1,1,1,1,1,1,2,1,2,1,2,1,2,1,2,1,1,2,1,1]⟩⟩
noncomputable def k13 : Kn:=⟨13,[],
 ⟨[],[]⟩,
 (.ret (.bool true)),
 ⟨[],[48,1,1,3,1,1,1,1,1,2,1,3,1,1,2,1,2,1,1,1,1,1,1,1,2,1,2,1,2,1,2,1,2,1,1,2,1,1]⟩⟩
end Go.Proofs.YtmeakjgbjldkdaaGreat.Ai
namespace Go.Proofs.YtmeakjgbjldkdaaGreat.Ai
open Go
theorem h_k89 : ∀ k ∈ ([] : List Kn),Known k:=fun k h => by cases h
theorem e_k89 : Known k89:=known_of h_k89 k89 (n:=300) (by kernel_rfl)
end Go.Proofs.YtmeakjgbjldkdaaGreat.Ai
namespace Go.Proofs.YtmeakjgbjldkdaaGreat.Ai
open Go
theorem h_k92 : ∀ k ∈ ([] : List Kn),Known k:=fun k h => by cases h
theorem e_k92 : Known k92:=known_of h_k92 k92 (n:=300) (by kernel_rfl)
end Go.Proofs.YtmeakjgbjldkdaaGreat.Ai
namespace Go.Proofs.YtmeakjgbjldkdaaGreat.Ai
open Go
theorem h_k91a : ∀ k ∈ ([] : List Kn),Known k:=fun k h => by cases h
theorem e_k91a : Known k91a:=known_of h_k91a k91a (n:=300) (by kernel_rfl)
end Go.Proofs.YtmeakjgbjldkdaaGreat.Ai
namespace Go.Proofs.YtmeakjgbjldkdaaGreat.Ai
open Go
theorem h_k91b : ∀ k ∈ ([] : List Kn),Known k:=fun k h => by cases h
theorem e_k91b : Known k91b:=known_of h_k91b k91b (n:=300) (by kernel_rfl)
end Go.Proofs.YtmeakjgbjldkdaaGreat.Ai
namespace Go.Proofs.YtmeakjgbjldkdaaGreat.Ai
open Go
theorem h_k51 : ∀ k ∈ ([k89,k92,k91a,k91b] : List Kn),Known k:=by
 intro k hk
 simp only [List.mem_cons,List.not_mem_nil,or_false] at hk
 rcases hk with rfl | rfl | rfl | rfl
 ·exact e_k89
 ·exact e_k92
 ·exact e_k91a
 ·exact e_k91b
theorem e_k51 : Known k51:=known_of h_k51 k51 (n:=300) (by kernel_rfl)
end Go.Proofs.YtmeakjgbjldkdaaGreat.Ai
namespace Go.Proofs.YtmeakjgbjldkdaaGreat.Ai
open Go
theorem h_k55 : ∀ k ∈ ([] : List Kn),Known k:=fun k h => by cases h
theorem e_k55 : Known k55:=known_of h_k55 k55 (n:=300) (by kernel_rfl)
end Go.Proofs.YtmeakjgbjldkdaaGreat.Ai
namespace Go.Proofs.YtmeakjgbjldkdaaGreat.Ai
open Go
theorem h_k19 : ∀ k ∈ ([k51,k55] : List Kn),Known k:=by
 intro k hk
 simp only [List.mem_cons,List.not_mem_nil,or_false] at hk
 rcases hk with rfl | rfl
 ·exact e_k51
 ·exact e_k55
theorem e_k19 : Known k19:=known_of h_k19 k19 (n:=300) (by kernel_rfl)
end Go.Proofs.YtmeakjgbjldkdaaGreat.Ai
namespace Go.Proofs.YtmeakjgbjldkdaaGreat.Ai
open Go
theorem h_k26 : ∀ k ∈ ([] : List Kn),Known k:=fun k h => by cases h
theorem e_k26 : Known k26:=known_of h_k26 k26 (n:=300) (by kernel_rfl)
end Go.Proofs.YtmeakjgbjldkdaaGreat.Ai
namespace Go.Proofs.YtmeakjgbjldkdaaGreat.Ai
open Go
theorem h_k30 : ∀ k ∈ ([] : List Kn),Known k:=fun k h => by cases h
theorem e_k30 : Known k30:=known_of h_k30 k30 (n:=300) (by kernel_rfl)
end Go.Proofs.YtmeakjgbjldkdaaGreat.Ai
namespace Go.Proofs.YtmeakjgbjldkdaaGreat.Ai
open Go
theorem h_k35 : ∀ k ∈ ([] : List Kn),Known k:=fun k h => by cases h
theorem e_k35 : Known k35:=known_of h_k35 k35 (n:=300) (by kernel_rfl)
end Go.Proofs.YtmeakjgbjldkdaaGreat.Ai
namespace Go.Proofs.YtmeakjgbjldkdaaGreat.Ai
open Go
theorem h_k25a : ∀ k ∈ ([] : List Kn),Known k:=fun k h => by cases h
theorem e_k25a : Known k25a:=known_of h_k25a k25a (n:=300) (by kernel_rfl)
end Go.Proofs.YtmeakjgbjldkdaaGreat.Ai
namespace Go.Proofs.YtmeakjgbjldkdaaGreat.Ai
open Go
theorem h_k25b : ∀ k ∈ ([] : List Kn),Known k:=fun k h => by cases h
theorem e_k25b : Known k25b:=known_of h_k25b k25b (n:=300) (by kernel_rfl)
end Go.Proofs.YtmeakjgbjldkdaaGreat.Ai
namespace Go.Proofs.YtmeakjgbjldkdaaGreat.Ai
open Go
theorem h_k13 : ∀ k ∈ ([k19,k26,k30,k35,k25a,k25b] : List Kn),Known k:=by
 intro k hk
 simp only [List.mem_cons,List.not_mem_nil,or_false] at hk
 rcases hk with rfl | rfl | rfl | rfl | rfl | rfl
 ·exact e_k19
 ·exact e_k26
 ·exact e_k30
 ·exact e_k35
 ·exact e_k25a
 ·exact e_k25b
theorem e_k13 : Known k13:=known_of h_k13 k13 (n:=300) (by kernel_rfl)
end Go.Proofs.YtmeakjgbjldkdaaGreat.Ai
namespace Go.Proofs.YtmeakjgbjldkdaaGreat.Once
open Go
theorem disable (w : World) : (callFunc 230 #[]).run Tryz.prog w = .ok (.value (.tuple #[])) w:=run_call_mark0 Tryz.func230 (by kernel_rfl) (by kernel_rfl) (by kernel_rfl) .disable (by kernel_rfl) w
theorem enable (w : World) : (callFunc 232 #[]).run Tryz.prog w = .ok (.value (.tuple #[])) w:=run_call_mark0 Tryz.func232 (by kernel_rfl) (by kernel_rfl) (by kernel_rfl) .enable (by kernel_rfl) w
theorem acquire (a : Addr) (w : World) : (callFunc 233 #[.pointer (some a)]).run Tryz.prog w = .ok (.value (.tuple #[])) w:=run_call_marked Tryz.func233 (by kernel_rfl) (by kernel_rfl) (by kernel_rfl) .acquire (by kernel_rfl) a w
theorem releaseMerge (a : Addr) (w : World) : (callFunc 235 #[.pointer (some a)]).run Tryz.prog w = .ok (.value (.tuple #[])) w:=run_call_marked Tryz.func235 (by kernel_rfl) (by kernel_rfl) (by kernel_rfl) .releaseMerge (by kernel_rfl) a w
theorem store_deferred (a : Addr) (x : Value) (u : FrameMode) (w : World) (hc : w.cell? a = some x) (hz : w.frozen? a = false) :
  CallsD Tryz.prog 155 #[.pointer (some a),.bool true] u w fun e u' w' => u' = u ∧ (e = .returned (.tuple #[]) ∧ w' = w.drew.setCell a (.int .u32 1)):=by
 have hc' : w.drew.cell? a = some x:=by go_simp
 have hz' : w.drew.frozen? a = false:=by go_simp
 have hst:=run_call_store (P:=Tryz.prog) Tryz.func207 (by kernel_rfl) (by kernel_rfl) (by kernel_rfl) (by kernel_rfl) (k:=.u32) (y:=1) hc' hz'
 go_enter_d Tryz.func155,Tryz.ntmps155
 go_wp2
 go_region_calls
 all_goals (go_end0; exact ⟨rfl,rfl⟩)
theorem unlock_deferred (a : Addr) (u : FrameMode) (w : World) (hc : w.cell? a = some (.int .i32 1)) (hz : w.frozen? a = false) :
  CallsD Tryz.prog 154 #[.pointer (some a)] u w fun e u' w' => u' = u ∧ (e = .returned (.tuple #[]) ∧ w' = w.setCell a (.int .i32 0)):=by
 have hd:=disable
 have he:=enable
 have hr:=releaseMerge
 have hadd:=run_call_add (P:=Tryz.prog) Tryz.func236 (by kernel_rfl) (by kernel_rfl) (by kernel_rfl) .i32 (by kernel_rfl) (y:=-1) (s:=0) hc hz (by simp [go_sem]; rfl)
 have hcv:=run_convert_to_unsafe (P:=Tryz.prog) (src:=280) (dst:=262) Tryz.underlying280 Tryz.underlying262 (by kernel_rfl) hc
 go_enter_d Tryz.func154,Tryz.ntmps154
 go_wp2
 go_end0
 go_wp2
 go_end0
 exact ⟨rfl,rfl⟩
theorem lock_free (a : Addr) (w : World) (hc : w.cell? a = some (.int .i32 0)) (hz : w.frozen? a = false) :
  Calls Tryz.prog 153 #[.pointer (some a)] w fun e w' => e = .returned (.tuple #[]) ∧ w' = w.setCell a (.int .i32 1):=by
 have hd:=disable
 have he:=enable
 have ha:=acquire
 have hcas:=run_call_cas_hit (P:=Tryz.prog) Tryz.func231 (by kernel_rfl) (by kernel_rfl) (by kernel_rfl) .i32 (by kernel_rfl) (y:=1) hc hz
 have hc' : (w.setCell a (.int .i32 1)).cell? a = some (.int .i32 1):=World.cell?_setCell_same w a _ hc
 have hcv:=run_convert_to_unsafe (P:=Tryz.prog) (src:=280) (dst:=262) Tryz.underlying280 Tryz.underlying262 (by kernel_rfl) hc'
 go_enter Tryz.func153,Tryz.ntmps153
 go_wp2
 first | go_end0 | (simp only [Exit.inBlock,Exit.then]; refine bodyPost_ret (results_none rfl _ _ _) rfl ?_) | refine bodyPost_ret (results_none rfl _ _ _) rfl ?_
 go_wp2
 go_end0
 exact ⟨rfl,rfl⟩
end Go.Proofs.YtmeakjgbjldkdaaGreat.Once
namespace Go.Proofs.YtmeakjgbjldkdaaGreat.Slo
open Go Go.Sort Go.Lib
def sub1 : Code → Code
 | .seq a _ => a
 | c => c
def sub2 : Code → Code
 | .seq _ b => b
 | c => c
noncomputable def tail59 : Code:=sub2 (Tryz.f59.body.getD .skip)
noncomputable def last59 : Code:=sub2 tail59
theorem act50 (a : Act) (h : a.tmps.size = 50) (hd : a.defers = []) : ∃ t0 t1 t2 t3 t4 t5 t6 t7 t8 t9 t10 t11 t12 t13 t14 t15 t16 t17 t18 t19 t20 t21 t22 t23 t24 t25 t26 t27 t28 t29 t30 t31 t32 t33 t34 t35 t36 t37 t38 t39 t40 t41 t42 t43 t44 t45 t46 t47 t48 t49 : Value,
  a = {tmps:=#[t0,t1,t2,t3,t4,t5,t6,t7,t8,t9,t10,t11,t12,t13,t14,t15,t16,t17,t18,t19,t20,t21,t22,t23,t24,t25,t26,t27,t28,t29,t30,t31,t32,t33,t34,t35,t36,t37,t38,t39,t40,t41,t42,t43,t44,t45,t46,t47,t48,t49],defers:=[]}:=by
 obtain ⟨⟨l⟩,d⟩:=a
 simp only at h hd
 subst hd
 simp only [List.size_toArray] at h
 match l,h with
 | t0 :: t1 :: t2 :: t3 :: t4 :: t5 :: t6 :: t7 :: t8 :: t9 :: t10 :: t11 :: t12 :: t13 :: t14 :: t15 :: t16 :: t17 :: t18 :: t19 :: t20 :: t21 :: t22 :: t23 :: t24 :: t25 :: t26 :: t27 :: t28 :: t29 :: t30 :: t31 :: t32 :: t33 :: t34 :: t35 :: t36 :: t37 :: t38 :: t39 :: t40 :: t41 :: t42 :: t43 :: t44 :: t45 :: t46 :: t47 :: t48 :: t49 :: [],_ => exact ⟨t0,t1,t2,t3,t4,t5,t6,t7,t8,t9,t10,t11,t12,t13,t14,t15,t16,t17,t18,t19,t20,t21,t22,t23,t24,t25,t26,t27,t28,t29,t30,t31,t32,t33,t34,t35,t36,t37,t38,t39,t40,t41,t42,t43,t44,t45,t46,t47,t48,t49,rfl⟩
theorem last_wp (bx bt br off cap : Nat) (l : List (List UInt8)) (Q : Exit → Act → World → Prop) (a : Act) (w : World) (hs : a.tmps.size = 50) (hd : a.defers = []) (ha : a.tmps.getD 0 Go.undef = .pointer (some ⟨bx,0,none⟩))
  (hx : w.cell? ⟨bx,0,none⟩ = some (.pointer (some ⟨bt,0,none⟩))) (hc : w.cell? ⟨bt,6,none⟩ = some (.slice (some ⟨br,off,none⟩) l.length cap)) (_hz : w.frozen? ⟨bt,6,none⟩ = false)
  (hH : Holds encStr w.drew br off l.toArray) (hl2 : l.length ≤ 9223372036854775807) (hcap : l.length ≤ cap)
  (hx2 : ∀ q,(putRow encStr (Sort.ahead w.drew q) br off (compact l ++ List.replicate (l.length - (compact l).length) []).toArray).cell? ⟨bx,0,none⟩ = some (.pointer (some ⟨bt,0,none⟩)))
  (hc2 : ∀ q,(putRow encStr (Sort.ahead w.drew q) br off (compact l ++ List.replicate (l.length - (compact l).length) []).toArray).cell? ⟨bt,6,none⟩ = some (.slice (some ⟨br,off,none⟩) l.length cap))
  (hz2 : ∀ q,(putRow encStr (Sort.ahead w.drew q) br off (compact l ++ List.replicate (l.length - (compact l).length) []).toArray).frozen? ⟨bt,6,none⟩ = false)
  (hQ : ∀ a' q,a'.defers = [] → Q .normal a' ((putRow encStr (Sort.ahead w.drew q) br off (compact l ++ List.replicate (l.length - (compact l).length) []).toArray).setCell ⟨bt,6,none⟩ (.slice (some ⟨br,off,none⟩) (compact l).length cap))) :
  last59.wp Tryz.prog Q a w:=by
 obtain ⟨t0,t1,t2,t3,t4,t5,t6,t7,t8,t9,t10,t11,t12,t13,t14,t15,t16,t17,t18,t19,t20,t21,t22,t23,t24,t25,t26,t27,t28,t29,t30,t31,t32,t33,t34,t35,t36,t37,t38,t39,t40,t41,t42,t43,t44,t45,t46,t47,t48,t49,rfl⟩:=act50 a hs hd
 clear hs hd
 change t0 = _ at ha
 subst ha
 unfold last59 tail59 Tryz.f59
 dsimp only [Option.getD_some,sub2]
 refine wp_region_any (by kernel_rfl) ?_
 try (change wpAny _ _ _ _ _ _ _ (World.drew _))
 refine wpAny_ready (rs:=[0,1]) (by kernel_rfl) (by simp) ?_
 refine AllReady.cons rfl (fun K hK => ?_) ?_
 ·go_simp
  refine hK _ _ ?_
  clear hK K
  refine wpAny_ready (rs:=[1]) (by kernel_rfl) (by simp) ?_
  refine AllReady.cons rfl (fun K hK => ?_) ?_
  ·go_simp
   refine hK _ _ ?_
   clear hK K
   refine wpAny_ready (rs:=[2]) (by kernel_rfl) (by simp) ?_
   refine AllReady.cons rfl (fun K hK => ?_) ?_
   ·go_simp
    refine hK _ _ ?_
    clear hK K
    refine wpAny_ready (rs:=[3]) (by kernel_rfl) (by simp) ?_
    refine AllReady.cons rfl (fun K hK => ?_) ?_
    ·go_simp
     refine hK _ _ ?_
     clear hK K
     refine wpAny_ready (rs:=[4]) (by kernel_rfl) (by simp) ?_
     refine AllReady.cons rfl (fun K hK => ?_) ?_
     ·go_simp
      refine hK _ _ ?_
      clear hK K
      refine wpAny_ready (rs:=[5]) (by kernel_rfl) (by simp) ?_
      refine AllReady.cons rfl (fun K hK => ?_) ?_
      ·go_simp
       go_wp2_with (go_at_call 61; refine (Tryz.slices_Compact_string br off cap l _ hH hl2 hcap).mono ?_; rintro e w2 ⟨rfl,q,rfl⟩)
       try (refine hK _ _ ?_; clear hK K)
       refine wpAny_ready (rs:=[6]) (by kernel_rfl) (by simp) ?_
       refine AllReady.cons rfl (fun K hK => ?_) ?_
       ·go_simp
        refine hK _ _ ?_
        clear hK K
        refine wpAny_ready (rs:=[7]) (by kernel_rfl) (by simp) ?_
        refine AllReady.cons rfl (fun K hK => ?_) ?_
        ·go_simp
         refine hK _ _ ?_
         clear hK K
         refine wpAny_ready (rs:=[8]) (by kernel_rfl) (by simp) ?_
         refine AllReady.cons rfl (fun K hK => ?_) ?_
         ·go_simp
          refine hK _ _ ?_
          clear hK K
          refine wpAny_done (by kernel_rfl) ?_ _
          exact hQ _ _ rfl
         exact AllReady.nil
        exact AllReady.nil
       exact AllReady.nil
      exact AllReady.nil
     exact AllReady.nil
    exact AllReady.nil
   exact AllReady.nil
  exact AllReady.nil
 refine AllReady.cons rfl (fun K hK => ?_) ?_
 ·go_simp
  refine hK _ _ ?_
  clear hK K
  refine wpAny_ready (rs:=[0,2]) (by kernel_rfl) (by simp) ?_
  refine AllReady.cons rfl (fun K hK => ?_) ?_
  ·go_simp
   refine hK _ _ ?_
   clear hK K
   refine wpAny_ready (rs:=[2]) (by kernel_rfl) (by simp) ?_
   refine AllReady.cons rfl (fun K hK => ?_) ?_
   ·go_simp
    refine hK _ _ ?_
    clear hK K
    refine wpAny_ready (rs:=[3]) (by kernel_rfl) (by simp) ?_
    refine AllReady.cons rfl (fun K hK => ?_) ?_
    ·go_simp
     refine hK _ _ ?_
     clear hK K
     refine wpAny_ready (rs:=[4]) (by kernel_rfl) (by simp) ?_
     refine AllReady.cons rfl (fun K hK => ?_) ?_
     ·go_simp
      refine hK _ _ ?_
      clear hK K
      refine wpAny_ready (rs:=[5]) (by kernel_rfl) (by simp) ?_
      refine AllReady.cons rfl (fun K hK => ?_) ?_
      ·go_simp
       go_wp2_with (go_at_call 61; refine (Tryz.slices_Compact_string br off cap l _ hH hl2 hcap).mono ?_; rintro e w2 ⟨rfl,q,rfl⟩)
       try (refine hK _ _ ?_; clear hK K)
       refine wpAny_ready (rs:=[6]) (by kernel_rfl) (by simp) ?_
       refine AllReady.cons rfl (fun K hK => ?_) ?_
       ·go_simp
        refine hK _ _ ?_
        clear hK K
        refine wpAny_ready (rs:=[7]) (by kernel_rfl) (by simp) ?_
        refine AllReady.cons rfl (fun K hK => ?_) ?_
        ·go_simp
         refine hK _ _ ?_
         clear hK K
         refine wpAny_ready (rs:=[8]) (by kernel_rfl) (by simp) ?_
         refine AllReady.cons rfl (fun K hK => ?_) ?_
         ·go_simp
          refine hK _ _ ?_
          clear hK K
          refine wpAny_done (by kernel_rfl) ?_ _
          exact hQ _ _ rfl
         exact AllReady.nil
        exact AllReady.nil
       exact AllReady.nil
      exact AllReady.nil
     exact AllReady.nil
    exact AllReady.nil
   exact AllReady.nil
  refine AllReady.cons rfl (fun K hK => ?_) ?_
  ·go_simp
   refine hK _ _ ?_
   clear hK K
   refine wpAny_ready (rs:=[0,3]) (by kernel_rfl) (by simp) ?_
   refine AllReady.cons rfl (fun K hK => ?_) ?_
   ·go_simp
    refine hK _ _ ?_
    clear hK K
    refine wpAny_ready (rs:=[3]) (by kernel_rfl) (by simp) ?_
    refine AllReady.cons rfl (fun K hK => ?_) ?_
    ·go_simp
     refine hK _ _ ?_
     clear hK K
     refine wpAny_ready (rs:=[4]) (by kernel_rfl) (by simp) ?_
     refine AllReady.cons rfl (fun K hK => ?_) ?_
     ·go_simp
      refine hK _ _ ?_
      clear hK K
      refine wpAny_ready (rs:=[5]) (by kernel_rfl) (by simp) ?_
      refine AllReady.cons rfl (fun K hK => ?_) ?_
      ·go_simp
       go_wp2_with (go_at_call 61; refine (Tryz.slices_Compact_string br off cap l _ hH hl2 hcap).mono ?_; rintro e w2 ⟨rfl,q,rfl⟩)
       try (refine hK _ _ ?_; clear hK K)
       refine wpAny_ready (rs:=[6]) (by kernel_rfl) (by simp) ?_
       refine AllReady.cons rfl (fun K hK => ?_) ?_
       ·go_simp
        refine hK _ _ ?_
        clear hK K
        refine wpAny_ready (rs:=[7]) (by kernel_rfl) (by simp) ?_
        refine AllReady.cons rfl (fun K hK => ?_) ?_
        ·go_simp
         refine hK _ _ ?_
         clear hK K
         refine wpAny_ready (rs:=[8]) (by kernel_rfl) (by simp) ?_
         refine AllReady.cons rfl (fun K hK => ?_) ?_
         ·go_simp
          refine hK _ _ ?_
          clear hK K
          refine wpAny_done (by kernel_rfl) ?_ _
          exact hQ _ _ rfl
         exact AllReady.nil
        exact AllReady.nil
       exact AllReady.nil
      exact AllReady.nil
     exact AllReady.nil
    exact AllReady.nil
   refine AllReady.cons rfl (fun K hK => ?_) ?_
   ·go_simp
    refine hK _ _ ?_
    clear hK K
    refine wpAny_ready (rs:=[0,4]) (by kernel_rfl) (by simp) ?_
    refine AllReady.cons rfl (fun K hK => ?_) ?_
    ·go_simp
     refine hK _ _ ?_
     clear hK K
     refine wpAny_ready (rs:=[4]) (by kernel_rfl) (by simp) ?_
     refine AllReady.cons rfl (fun K hK => ?_) ?_
     ·go_simp
      refine hK _ _ ?_
      clear hK K
      refine wpAny_ready (rs:=[5]) (by kernel_rfl) (by simp) ?_
      refine AllReady.cons rfl (fun K hK => ?_) ?_
      ·go_simp
       go_wp2_with (go_at_call 61; refine (Tryz.slices_Compact_string br off cap l _ hH hl2 hcap).mono ?_; rintro e w2 ⟨rfl,q,rfl⟩)
       try (refine hK _ _ ?_; clear hK K)
       refine wpAny_ready (rs:=[6]) (by kernel_rfl) (by simp) ?_
       refine AllReady.cons rfl (fun K hK => ?_) ?_
       ·go_simp
        refine hK _ _ ?_
        clear hK K
        refine wpAny_ready (rs:=[7]) (by kernel_rfl) (by simp) ?_
        refine AllReady.cons rfl (fun K hK => ?_) ?_
        ·go_simp
         refine hK _ _ ?_
         clear hK K
         refine wpAny_ready (rs:=[8]) (by kernel_rfl) (by simp) ?_
         refine AllReady.cons rfl (fun K hK => ?_) ?_
         ·go_simp
          refine hK _ _ ?_
          clear hK K
          refine wpAny_done (by kernel_rfl) ?_ _
          exact hQ _ _ rfl
         exact AllReady.nil
        exact AllReady.nil
       exact AllReady.nil
      exact AllReady.nil
     exact AllReady.nil
    refine AllReady.cons rfl (fun K hK => ?_) ?_
    ·go_simp
     refine hK _ _ ?_
     clear hK K
     refine wpAny_ready (rs:=[0,5]) (by kernel_rfl) (by simp) ?_
     refine AllReady.cons rfl (fun K hK => ?_) ?_
     ·go_simp
      refine hK _ _ ?_
      clear hK K
      refine wpAny_ready (rs:=[5]) (by kernel_rfl) (by simp) ?_
      refine AllReady.cons rfl (fun K hK => ?_) ?_
      ·go_simp
       go_wp2_with (go_at_call 61; refine (Tryz.slices_Compact_string br off cap l _ hH hl2 hcap).mono ?_; rintro e w2 ⟨rfl,q,rfl⟩)
       try (refine hK _ _ ?_; clear hK K)
       refine wpAny_ready (rs:=[6]) (by kernel_rfl) (by simp) ?_
       refine AllReady.cons rfl (fun K hK => ?_) ?_
       ·go_simp
        refine hK _ _ ?_
        clear hK K
        refine wpAny_ready (rs:=[7]) (by kernel_rfl) (by simp) ?_
        refine AllReady.cons rfl (fun K hK => ?_) ?_
        ·go_simp
         refine hK _ _ ?_
         clear hK K
         refine wpAny_ready (rs:=[8]) (by kernel_rfl) (by simp) ?_
         refine AllReady.cons rfl (fun K hK => ?_) ?_
         ·go_simp
          refine hK _ _ ?_
          clear hK K
          refine wpAny_done (by kernel_rfl) ?_ _
          exact hQ _ _ rfl
         exact AllReady.nil
        exact AllReady.nil
       exact AllReady.nil
      exact AllReady.nil
     refine AllReady.cons rfl (fun K hK => ?_) ?_
     ·go_simp
      go_wp2_with (go_at_call 61; refine (Tryz.slices_Compact_string br off cap l _ hH hl2 hcap).mono ?_; rintro e w2 ⟨rfl,q,rfl⟩)
      try (refine hK _ _ ?_; clear hK K)
      refine wpAny_ready (rs:=[0]) (by kernel_rfl) (by simp) ?_
      refine AllReady.cons rfl (fun K hK => ?_) ?_
      ·go_simp
       refine hK _ _ ?_
       clear hK K
       refine wpAny_ready (rs:=[6]) (by kernel_rfl) (by simp) ?_
       refine AllReady.cons rfl (fun K hK => ?_) ?_
       ·go_simp
        refine hK _ _ ?_
        clear hK K
        refine wpAny_ready (rs:=[7]) (by kernel_rfl) (by simp) ?_
        refine AllReady.cons rfl (fun K hK => ?_) ?_
        ·go_simp
         refine hK _ _ ?_
         clear hK K
         refine wpAny_ready (rs:=[8]) (by kernel_rfl) (by simp) ?_
         refine AllReady.cons rfl (fun K hK => ?_) ?_
         ·go_simp
          refine hK _ _ ?_
          clear hK K
          refine wpAny_done (by kernel_rfl) ?_ _
          exact hQ _ _ rfl
         exact AllReady.nil
        exact AllReady.nil
       exact AllReady.nil
      exact AllReady.nil
     exact AllReady.nil
    exact AllReady.nil
   exact AllReady.nil
  exact AllReady.nil
 exact AllReady.nil
end Go.Proofs.YtmeakjgbjldkdaaGreat.Slo
namespace Go.Proofs.YtmeakjgbjldkdaaGreat.Slo
open Go Go.Sort Go.Lib Go.Proofs.YtmeakjgbjldkdaaGreat.Ai
theorem putRow_at {w : World} {br off : Nat} {d : Array (List UInt8)} {us : Array Value} {t : TypeId} (h : w.heap[br]? = some (.cells us t (0,0))) : (putRow encStr w br off d).heap[br]? = some (.cells (putCells encStr off d us) t (0,0)):=by
 simp [putRow,mapBlock,Array.getElem?_modify,h,onCells]
theorem putRow_ne {w : World} {br off k : Nat} {d : Array (List UInt8)} (h : k ≠ br) : (putRow encStr w br off d).heap[k]? = w.heap[k]?:=by
 simp only [putRow,mapBlock,Array.getElem?_modify]
 rw [if_neg (Ne.symm h)]
theorem putCells_two {off : Nat} {d d' : Array (List UInt8)} (h : d'.size = d.size) (us : Array Value) : putCells encStr off d' (putCells encStr off d us) = putCells encStr off d' us:=by
 apply Array.ext_getElem?
 intro k
 simp only [putCells,Array.getElem?_mapIdx]
 cases us[k]? with
 | none => rfl
 | some y =>
  simp only [Option.map_some]
  by_cases hr : off ≤ k ∧ k < off + d'.size
  ·rw [if_pos hr,if_pos hr]
  ·rw [if_neg hr,if_neg hr,if_neg (by omega)]
noncomputable def first59 : Code:=sub1 tail59
theorem tail_seq : tail59 = .seq first59 last59:=by
 unfold first59 last59 tail59 Tryz.f59
 rfl
def slotRow (l : List (List UInt8)) : Array (List UInt8):=(dedB (sortB l) ++ List.replicate (l.length - (dedB (sortB l)).length) []).toArray
theorem fin_world {bt br off cap : Nat} {l : List (List UInt8)} {Q : Exit → Act → World → Prop} {w : World} {vs us : Array Value} {tv tu : TypeId}
  (hQ : ∀ a' w',a'.defers = [] → w'.os = w.os → w'.tape = w.tape → w'.output = w.output → w.heap.size ≤ w'.heap.size →
   (∀ k,k < w.heap.size → k ≠ br → k ≠ bt → w'.heap[k]? = w.heap[k]?) →
   w'.heap[bt]? = some (.cells (vs.setIfInBounds 6 (.slice (some ⟨br,off,none⟩) (dedB (sortB l)).length cap)) tv (0,0)) →
   w'.heap[br]? = some (.cells (putCells encStr off (slotRow l) us) tu (0,0)) → Q .normal a' w') (a' : Act) (hda : a'.defers = []) (hv6l : 6 < vs.size) {cs : List (List UInt8)} (hcs : cs = dedB (sortB l)) (hvr : bt ≠ br) (_hbr : br < w.heap.size) {w2 : World}
  (Zr : w2.heap[br]? = some (.cells (putCells encStr off (slotRow l) us) tu (0,0))) (Zv : w2.heap[bt]? = some (.cells vs tv (0,0))) (Zk : ∀ k,k < w.heap.size → k ≠ br → w2.heap[k]? = w.heap[k]?)
  (Zo : w2.os = w.os) (Zt : w2.tape = w.tape) (Zp : w2.output = w.output) (Zs : w.heap.size ≤ w2.heap.size) : Q .normal a' (w2.setCell ⟨bt,6,none⟩ (.slice (some ⟨br,off,none⟩) cs.length cap)):=by
 subst hcs
 obtain ⟨cur',hW,hcl,hcs⟩:=Wr.setCells (B:=bt) (t:=tv) [.slice (some ⟨br,off,none⟩) (dedB (sortB l)).length cap] 6 _ vs Zv (by simp; omega)
 have hcur : cur' = vs.setIfInBounds 6 (.slice (some ⟨br,off,none⟩) (dedB (sortB l)).length cap):=by
  apply Array.ext'
  rw [hcl,Array.toList_setIfInBounds,List.set_eq_take_append_cons_drop,if_pos (by simpa using hv6l)]
  simp
 have hW' : Wr w2 (w2.setCell ⟨bt,6,none⟩ (.slice (some ⟨br,off,none⟩) (dedB (sortB l)).length cap)) bt cur' tv:=hW
 refine hQ a' _ hda (hW'.os.trans Zo) (hW'.tape.trans Zt) (hW'.output.trans Zp) (by rw [hW'.size]; exact Zs) (fun k hk h1 h2 => (hW'.other k h2).trans (Zk k hk h1)) ?_ ((hW'.other br (Ne.symm hvr)).trans Zr)
 rw [← hcur]
 exact hW'.block
theorem tail_wp (bx bt br off cap : Nat) (l : List (List UInt8)) (Q : Exit → Act → World → Prop) (a : Act) (w : World) (hs : a.tmps.size = 50) (hd : a.defers = []) (ha : a.tmps.getD 0 Go.undef = .pointer (some ⟨bx,0,none⟩))
  {xs vs us : Array Value} {tx tv tu : TypeId} (hx : w.heap[bx]? = some (.cells xs tx (0,0))) (hx0 : xs[0]? = some (.pointer (some ⟨bt,0,none⟩)))
  (hv : w.heap[bt]? = some (.cells vs tv (0,0))) (hv6 : vs[6]? = some (.slice (some ⟨br,off,none⟩) l.length cap))
  (hu : w.heap[br]? = some (.cells us tu (0,0))) (hul : ∀ j,j < l.length → us[off + j]? = some (encStr (l.toArray[j]!)))
  (hxr : bx ≠ br) (hvr : bt ≠ br) (hl : l.length ≤ 1073741824) (hcap : l.length ≤ cap)
  (hQ : ∀ a' w',a'.defers = [] → w'.os = w.os → w'.tape = w.tape → w'.output = w.output → w.heap.size ≤ w'.heap.size →
   (∀ k,k < w.heap.size → k ≠ br → k ≠ bt → w'.heap[k]? = w.heap[k]?) →
   w'.heap[bt]? = some (.cells (vs.setIfInBounds 6 (.slice (some ⟨br,off,none⟩) (dedB (sortB l)).length cap)) tv (0,0)) →
   w'.heap[br]? = some (.cells (putCells encStr off (slotRow l) us) tu (0,0)) → Q .normal a' w') :
  tail59.wp Tryz.prog Q a w:=by
 rw [tail_seq]
 refine wp_seq ?_
 have hbr : br < w.heap.size:=(Array.getElem?_eq_some_iff.1 hu).1
 have hbt : bt < w.heap.size:=(Array.getElem?_eq_some_iff.1 hv).1
 have hbx : bx < w.heap.size:=(Array.getElem?_eq_some_iff.1 hx).1
 have hH : Holds encStr w br off l.toArray:=fun j hj => ⟨by rw [cells_at hu]; exact hul j (by simpa using hj),free_at hu _⟩
 have cx : w.cell? ⟨bx,0,none⟩ = some (.pointer (some ⟨bt,0,none⟩)):=by rw [cells_at hx]; exact hx0
 have cv : w.cell? ⟨bt,6,none⟩ = some (.slice (some ⟨br,off,none⟩) l.length cap):=by rw [cells_at hv]; exact hv6
 have key : ∀ a1 n os,a1.tmps.size = 50 → a1.defers = [] → a1.tmps.getD 0 Go.undef = .pointer (some ⟨bx,0,none⟩) →
   last59.wp Tryz.prog Q a1 (grow (putRow encStr (Sort.ahead w n) br off (l.mergeSort fun x y => decide (x ≤ y)).toArray) os):=by
  intro a1 n os h1 h2 h3
  rw [sortB_eq]
  have hsl:=sortB_length l
  have hdl:=dedB_length (sortB l)
  have W0 : ∀ k,k < w.heap.size → k ≠ br → (grow (putRow encStr (Sort.ahead w n) br off (sortB l).toArray) os).heap[k]? = w.heap[k]?:=by
   intro k hk hne
   have : (grow (putRow encStr (Sort.ahead w n) br off (sortB l).toArray) os).heap[k]? = (putRow encStr (Sort.ahead w n) br off (sortB l).toArray).heap[k]?:=Array.getElem?_append_left (by simpa using hk)
   rw [this,putRow_ne hne]
   rfl
  have W1 : (grow (putRow encStr (Sort.ahead w n) br off (sortB l).toArray) os).heap[br]? = some (.cells (putCells encStr off (sortB l).toArray us) tu (0,0)):=by
   have : (grow (putRow encStr (Sort.ahead w n) br off (sortB l).toArray) os).heap[br]? = (putRow encStr (Sort.ahead w n) br off (sortB l).toArray).heap[br]?:=Array.getElem?_append_left (by simpa using hbr)
   rw [this]
   exact putRow_at hu
  have hWs : w.heap.size ≤ (grow (putRow encStr (Sort.ahead w n) br off (sortB l).toArray) os).heap.size:=by simp
  have hWos : (grow (putRow encStr (Sort.ahead w n) br off (sortB l).toArray) os).os = w.os:=rfl
  have hWtape : (grow (putRow encStr (Sort.ahead w n) br off (sortB l).toArray) os).tape = w.tape:=rfl
  have hWout : (grow (putRow encStr (Sort.ahead w n) br off (sortB l).toArray) os).output = w.output:=rfl
  have hWH : Holds encStr (grow (putRow encStr (Sort.ahead w n) br off (sortB l).toArray) os) br off (sortB l).toArray:=by
   refine holds_grow encStr _ os br off _ (by simpa using hbr) ?_
   exact holds_putRow encStr (Sort.ahead w n) br off l.toArray _ (holds_ahead encStr w n br off _ hH) (by simp [hsl])
  generalize grow (putRow encStr (Sort.ahead w n) br off (sortB l).toArray) os = W at W0 W1 hWs hWos hWtape hWout hWH ⊢
  have Wx : W.heap[bx]? = some (.cells xs tx (0,0)):=(W0 bx hbx hxr).trans hx
  have Wv : W.heap[bt]? = some (.cells vs tv (0,0)):=(W0 bt hbt hvr).trans hv
  have Y : ∀ q k,k ≠ br → (putRow encStr (Sort.ahead W.drew q) br off (compact (sortB l) ++ List.replicate ((sortB l).length - (compact (sortB l)).length) []).toArray).heap[k]? = W.heap[k]?:=by
   intro q k hne
   rw [putRow_ne hne]
   rfl
  refine last_wp bx bt br off cap (sortB l) Q a1 W h1 h2 h3 (by rw [cells_at Wx]; exact hx0) (by rw [cells_at Wv,hsl]; exact hv6) (free_at Wv _) hWH (by omega) (by omega) ?_ ?_ ?_ ?_
  ·intro q
   rw [cells_at ((Y q bx hxr).trans Wx)]; exact hx0
  ·intro q
   rw [cells_at ((Y q bt hvr).trans Wv),hsl]; exact hv6
  ·intro q
   exact free_at ((Y q bt hvr).trans Wv) _
  ·intro a' q hda
   have hv6l : 6 < vs.size:=(Array.getElem?_eq_some_iff.1 hv6).1
   have Zr : (putRow encStr (Sort.ahead W.drew q) br off (compact (sortB l) ++ List.replicate ((sortB l).length - (compact (sortB l)).length) []).toArray).heap[br]? = some (.cells (putCells encStr off (slotRow l) us) tu (0,0)):=by
    refine (putRow_at (us:=putCells encStr off (sortB l).toArray us) (t:=tu) W1).trans ?_
    rw [dedB_eq,hsl,putCells_two (by simp; omega)]
    rfl
   have Zv:=(Y q bt hvr).trans Wv
   have Zk:=fun k (hk : k < w.heap.size) (h1 : k ≠ br) => (Y q k h1).trans (W0 k hk h1)
   have Zo : (putRow encStr (Sort.ahead W.drew q) br off (compact (sortB l) ++ List.replicate ((sortB l).length - (compact (sortB l)).length) []).toArray).os = w.os:=hWos
   have Zt : (putRow encStr (Sort.ahead W.drew q) br off (compact (sortB l) ++ List.replicate ((sortB l).length - (compact (sortB l)).length) []).toArray).tape = w.tape:=hWtape
   have Zp : (putRow encStr (Sort.ahead W.drew q) br off (compact (sortB l) ++ List.replicate ((sortB l).length - (compact (sortB l)).length) []).toArray).output = w.output:=hWout
   have Zs : w.heap.size ≤ (putRow encStr (Sort.ahead W.drew q) br off (compact (sortB l) ++ List.replicate ((sortB l).length - (compact (sortB l)).length) []).toArray).heap.size:=by rw [size_putRow]; exact hWs
   generalize putRow encStr (Sort.ahead W.drew q) br off (compact (sortB l) ++ List.replicate ((sortB l).length - (compact (sortB l)).length) []).toArray = w2 at Zr Zv Zk Zo Zt Zp Zs ⊢
   exact fin_world hQ a' hda hv6l (dedB_eq _) hvr hbr Zr Zv Zk Zo Zt Zp Zs
 obtain ⟨t0,t1,t2,t3,t4,t5,t6,t7,t8,t9,t10,t11,t12,t13,t14,t15,t16,t17,t18,t19,t20,t21,t22,t23,t24,t25,t26,t27,t28,t29,t30,t31,t32,t33,t34,t35,t36,t37,t38,t39,t40,t41,t42,t43,t44,t45,t46,t47,t48,t49,rfl⟩:=act50 a hs hd
 change t0 = _ at ha
 subst ha
 clear hQ hs hd hx hv hu hul hx0 hv6 hxr hvr
 have hfz:=hH
 unfold first59 tail59 Tryz.f59
 dsimp only [Option.getD_some,sub1,sub2]
 go_wp2_with (go_at_call 60; refine (Tryz.slices_Sort_string br off cap l _ hH hbr (by omega)).mono ?_; rintro e w' ⟨rfl,n,os,rfl⟩)
 exact key _ _ _ rfl rfl rfl
end Go.Proofs.YtmeakjgbjldkdaaGreat.Slo
namespace Go.Proofs.YtmeakjgbjldkdaaGreat.Once
open Go
def Left (b off : Nat) (Q : World → Prop) (e : Ending) (w' : World) : Prop:=
 e = .returned (.tuple #[]) ∧ Q w' ∧ w'.cell? ⟨b,off,none⟩ = some (.int .u32 0) ∧ w'.cell? ⟨b,off + 1,none⟩ = some (.int .i32 1) ∧ w'.frozen? ⟨b,off,none⟩ = false ∧ w'.frozen? ⟨b,off + 1,none⟩ = false
theorem slow_any (b off : Nat) (pl : Addr) (Q : World → Prop) (w : World)
  (h0 : w.cell? ⟨b,off,none⟩ = some (.int .u32 0)) (h1 : w.cell? ⟨b,off + 1,none⟩ = some (.int .i32 0))
  (f1 : w.frozen? ⟨b,off + 1,none⟩ = false)
  (hf : Calls Tryz.prog 59 #[.pointer (some pl)] (w.setCell ⟨b,off + 1,none⟩ (.int .i32 1)) (Left b off Q)) :
  Calls Tryz.prog 108 #[.pointer (some ⟨b,off,none⟩),.func (.func 59) #[] #[.pointer (some pl)]] w fun e w' => e = .returned (.tuple #[]) ∧
   ∃ w2,Q w2 ∧ w' = (w2.drew.setCell ⟨b,off,none⟩ (.int .u32 1)).setCell ⟨b,off + 1,none⟩ (.int .i32 0):=by
 have hl:=run_call_load (P:=Tryz.prog) Tryz.func152 (by kernel_rfl) (by kernel_rfl) (by kernel_rfl) .u32 (by kernel_rfl) (w:=w.setCell ⟨b,off + 1,none⟩ (.int .i32 1)) (a:=⟨b,off,none⟩) (x:=0) ((World.cell?_setCell_other _ ⟨b,off + 1,none⟩ ⟨b,off,none⟩ _ (by simp)).trans h0)
 have hnot : ∀ (x : Bool) (w : World),(Op.unary .not (.bool x)).run Tryz.prog w = .ok (.bool (!x)) w:=fun _ _ => rfl
 go_enter_defers Tryz.func108,Tryz.ntmps108
 go_wp2_with (go_at_call 153; refine (lock_free ⟨b,off + 1,none⟩ _ (by go_simp) (by go_simp)).mono ?_; rintro e w' ⟨rfl,rfl⟩)
 go_wp2_with (first | (go_at_call 59; refine hf.mono ?_; rintro e w2 ⟨rfl,hQ,g0,g1,z0,z1⟩) | (go_at_call 107; go_in))
 first | (simp only [bodyPostD]) | go_wp2
 refine leaves_cons (f:=155) (args:=#[.pointer (some ⟨b,off,none⟩),.bool true]) (by simp) (by simp [go_sem]) ?_
 refine (store_deferred ⟨b,off,none⟩ (.int .u32 0) .returning _ ?_ (by simp [z0])).mono ?_
 ·exact g0
 rintro e u' w'' ⟨rfl,rfl,rfl⟩
 refine leaves_cons (f:=154) (args:=#[.pointer (some ⟨b,off + 1,none⟩)]) (by simp [settle]) (by simp [go_sem]) ?_
 refine (unlock_deferred ⟨b,off + 1,none⟩ _ _ ?_ (by simp [z1])).mono ?_
 ·refine (World.cell?_setCell_other _ ⟨b,off,none⟩ ⟨b,off + 1,none⟩ _ (by simp)).trans ?_
  rw [World.cell?_drew]
  exact g1
 rintro e u' w'' ⟨rfl,rfl,rfl⟩
 simp [Leaves,settle,results,Tryz.results108]
 exact ⟨w2,hQ,rfl⟩
theorem do_first (b off : Nat) (pl : Addr) (Q : World → Prop) (w : World)
  (h0 : w.cell? ⟨b,off,none⟩ = some (.int .u32 0)) (h1 : w.cell? ⟨b,off + 1,none⟩ = some (.int .i32 0))
  (f1 : w.frozen? ⟨b,off + 1,none⟩ = false)
  (hf : Calls Tryz.prog 59 #[.pointer (some pl)] (w.setCell ⟨b,off + 1,none⟩ (.int .i32 1)) (Left b off Q)) :
  Calls Tryz.prog 58 #[.pointer (some ⟨b,off,none⟩),.func (.func 59) #[] #[.pointer (some pl)]] w fun e w' => e = .returned (.tuple #[]) ∧
   ∃ w2,Q w2 ∧ w' = (w2.drew.setCell ⟨b,off,none⟩ (.int .u32 1)).setCell ⟨b,off + 1,none⟩ (.int .i32 0):=by
 have hl:=run_call_load (P:=Tryz.prog) Tryz.func152 (by kernel_rfl) (by kernel_rfl) (by kernel_rfl) .u32 (by kernel_rfl) h0
 have hnot : ∀ (x : Bool) (w : World),(Op.unary .not (.bool x)).run Tryz.prog w = .ok (.bool (!x)) w:=fun _ _ => rfl
 go_enter Tryz.func58,Tryz.ntmps58
 go_wp2_with (first | (go_at_call 108; refine (slow_any b off pl Q _ h0 h1 f1 hf).mono ?_; rintro e w' ⟨rfl,hw⟩) | (go_at_call 107; go_in))
 go_end0
 exact ⟨rfl,hw⟩
theorem do_done (a : Addr) (d : Int) (hd : ¬d = 0) (fv : Value) (w : World) (h0 : w.cell? a = some (.int .u32 d)) :
  Calls Tryz.prog 58 #[.pointer (some a),fv] w fun e w' => e = .returned (.tuple #[]) ∧ w' = w:=by
 have hl:=run_call_load (P:=Tryz.prog) Tryz.func152 (by kernel_rfl) (by kernel_rfl) (by kernel_rfl) .u32 (by kernel_rfl) h0
 have hnot : ∀ (x : Bool) (w : World),(Op.unary .not (.bool x)).run Tryz.prog w = .ok (.bool (!x)) w:=fun _ _ => rfl
 have hd' : (d != 0) = true:=by simp [hd]
 go_enter Tryz.func58,Tryz.ntmps58
 go_wp2
 go_end0
 exact ⟨rfl,rfl⟩
end Go.Proofs.YtmeakjgbjldkdaaGreat.Once
namespace Go.Proofs.YtmeakjgbjldkdaaGreat.Ai
open Go
theorem rel_set {K : Ghost} {S : St} {w : World} {n B off : Nat} {cs : List AV} {x : AV} {u : Value} (R : Rel K S w) (hm : K.m n = some B) (hb : S.heap[n]? = some (.cells cs)) (ho : off < cs.length) (hx1 : x.one = true) (hx : Rep K x u) :
  Rel K ⟨S.heap.set n (.cells (overlay cs off [x])),S.rows⟩ (w.setCell ⟨B,off,none⟩ u) ∧ ∀ X,Step K X w K (w.setCell ⟨B,off,none⟩ u):=by
 obtain ⟨vs,t,hw,hr⟩:=R.cells n B cs hm hb
 have hrl:=hr.length
 simp only [Array.length_toList] at hrl
 obtain ⟨cur',hW,hl,hs⟩:=Wr.setCells (B:=B) (t:=t) [u] off w vs hw (by simp; omega)
 have e : w.setCells B off [u] = w.setCell ⟨B,off,none⟩ u:=rfl
 rw [e] at hW
 refine ⟨R.write hm hb hW ?_,Step.write hm hW⟩
 rw [hl]
 exact hr.overlay (by simp only [RepL]; exact ⟨u,[],rfl,hx1,hx,rfl⟩)
theorem rel_drew {K : Ghost} {S : St} {w : World} (R : Rel K S w) : Rel K S w.drew ∧ ∀ X,Step K X w K w.drew:=
 ⟨⟨R.dom,R.inj,R.sep,R.cells,R.maps,R.rows,R.grow⟩,fun _ => ⟨Ext.refl K,rfl,rfl,rfl,Nat.le_refl _,fun _ _ _ _ => rfl,fun _ _ h1 h2 => ⟨h1,h2⟩,fun _ _ h => h,fun _ x h => .inl ⟨x,h⟩⟩⟩
theorem cell_of {K : Ghost} {S : St} {w : World} {n B off : Nat} {cs : List AV} {k : IntKind} {x : Int} (R : Rel K S w) (hm : K.m n = some B) (hb : S.heap[n]? = some (.cells cs)) (hx : cs[off]? = some (.int k x)) :
  w.cell? ⟨B,off,none⟩ = some (.int k x) ∧ w.frozen? ⟨B,off,none⟩ = false:=by
 obtain ⟨vs,t,hw,hr⟩:=R.cells n B cs hm hb
 obtain ⟨u,h1,-,h2⟩:=hr.get off _ hx
 simp only [Rep] at h2
 subst h2
 refine ⟨?_,free_at hw _⟩
 rw [cells_at hw]
 simpa using h1
theorem enter58 (us : Array Value) (w : World) : (callFunc 58 us).run Tryz.prog w = .ok (.enter 58 us) w:=by
 have hf:=Tryz.func58
 have hb : Tryz.f58.body.isSome = true:=by kernel_rfl
 have h2 : (Tryz.f58.name != "runtime.NumGoroutine") = true:=by kernel_rfl
 obtain ⟨c,hc⟩:=Option.isSome_iff_exists.1 hb
 have h3 : ¬Tryz.f58.name = "runtime.NumGoroutine":=by simpa using h2
 simp [callFunc,hf,h3,hc]
theorem enter59 (us : Array Value) (w : World) : (callFunc 59 us).run Tryz.prog w = .ok (.enter 59 us) w:=by
 have hf:=Tryz.func59
 have hb : Tryz.f59.body.isSome = true:=by kernel_rfl
 have h2 : (Tryz.f59.name != "runtime.NumGoroutine") = true:=by kernel_rfl
 obtain ⟨c,hc⟩:=Option.isSome_iff_exists.1 hb
 have h3 : ¬Tryz.f59.name = "runtime.NumGoroutine":=by simpa using h2
 simp [callFunc,hf,h3,hc]
theorem setC_eq {H : List Blk} {n off : Nat} {cs : List AV} {v : AV} (h : H[n]? = some (.cells cs)) : setC H n off v = H.set n (.cells (overlay cs off [v])):=by
 unfold setC
 rw [h]
theorem keeps_trans' {b0 : Nat} {S S' S'' : St} (h : Keeps b0 S S') (h' : Keeps b0 S' S'') : Keeps b0 S S'':=⟨Nat.le_trans h.1 h'.1,fun k hk hi => h'.2.1 k hk (h.2.1 k hk hi),fun hi => h'.2.2 (h.2.2 hi)⟩
theorem once_sim : PrimSim Tryz.prog 58 onceP:=by
 intro cl hcl vs S r S' hp K w us R hI ha
 unfold onceP at hp
 split at hp
 ·rename_i n off m
  split at hp
  ·rename_i cs hcs
   simp only [RepT,Rep] at ha
   obtain ⟨v1,us1,rfl,⟨B,hmB,rfl⟩,v2,us2,rfl,⟨us3,vs3,rfl,hu3,v4,vs5,hv3,⟨B2,hmB2,rfl⟩,hv5⟩,rfl⟩:=ha
   subst hu3 hv5 hv3
   refine .inl ⟨enter58 _ _,?_⟩
   split at hp
   ·
    rename_i h0 h1
    split at hp
    ·rename_i S2 hcall
     split at hp
     ·rename_i cs2 hcs2
      split at hp
      ·rename_i g0 g1
       simp only [Option.some.injEq,Prod.mk.injEq] at hp
       obtain ⟨rfl,rfl⟩:=hp
       obtain ⟨c0,f0⟩:=cell_of R hmB hcs h0
       obtain ⟨c1,f1⟩:=cell_of R hmB hcs h1
       have ho1 : off + 1 < cs.length:=(List.getElem?_eq_some_iff.1 h1).1
       obtain ⟨R1,st1⟩:=rel_set (x:=.int .i32 1) (u:=.int .i32 1) R hmB hcs ho1 rfl rfl
       have k1 : Keeps S.heap.length S ⟨S.heap.set n (.cells (overlay cs (off + 1) [.int .i32 1])),S.rows⟩:=keeps_store (x:=.int .i32 1) hcs (.inr rfl) rfl
       rw [setC_eq hcs] at hcall
       have hcl59:=hcl 59 [.ptr m 0] _ _ _ hcall K (w.setCell ⟨B,off + 1,none⟩ (.int .i32 1)) [.pointer (some ⟨B2,0,none⟩)] R1 (k1.2.2 hI) (by simp only [RepT,Rep]; exact ⟨_,_,rfl,⟨B2,hmB2,rfl⟩,rfl⟩)
       rcases hcl59 with ⟨-,hC⟩ | ⟨u,w',hv,-⟩
       ·refine (Once.do_first B off ⟨B2,0,none⟩ (fun w' => ∃ K2,Rel K2 S2 w' ∧ Step K (fun k => k < S.heap.length) (w.setCell ⟨B,off + 1,none⟩ (.int .i32 1)) K2 w' ∧ Keeps S.heap.length ⟨S.heap.set n (.cells (overlay cs (off + 1) [.int .i32 1])),S.rows⟩ S2) w c0 c1 f1 (hC.mono ?_)).mono ?_
        ·rintro e w' ⟨K2,R2,st2,k2,u,rfl,hu⟩
         simp only [List.length_set] at st2 k2
         have hm2:=st2.ext.m n B hmB
         obtain ⟨d0,z0⟩:=cell_of R2 hm2 hcs2 g0
         obtain ⟨d1,z1⟩:=cell_of R2 hm2 hcs2 g1
         refine ⟨?_,⟨K2,R2,st2,k2⟩,d0,d1,z0,z1⟩
         simp only [Rep] at hu
         obtain ⟨l,rfl,hl⟩:=hu
         simp only [RepT] at hl
         subst hl
         rfl
        ·rintro e w' ⟨rfl,w2,⟨K2,R2,st2,k2⟩,rfl⟩
         have hm2:=st2.ext.m n B hmB
         have go0 : off < cs2.length:=(List.getElem?_eq_some_iff.1 g0).1
         have go1 : off + 1 < cs2.length:=(List.getElem?_eq_some_iff.1 g1).1
         obtain ⟨Rd,sd⟩:=rel_drew R2
         obtain ⟨R3,st3⟩:=rel_set (x:=.int .u32 1) (u:=.int .u32 1) Rd hm2 hcs2 go0 rfl rfl
         have hn2 : n < S2.heap.length:=(List.getElem?_eq_some_iff.1 hcs2).1
         have hcs3 : (S2.heap.set n (.cells (overlay cs2 off [.int .u32 1])))[n]? = some (.cells (overlay cs2 off [.int .u32 1])):=List.getElem?_set_self hn2
         have hl3 : (overlay cs2 off [.int .u32 1]).length = cs2.length:=by simp [overlay]; omega
         obtain ⟨R4,st4⟩:=rel_set (x:=.int .i32 0) (u:=.int .i32 0) R3 hm2 hcs3 (by rw [hl3]; exact go1) rfl rfl
         have k3 : Keeps S.heap.length S2 ⟨S2.heap.set n (.cells (overlay cs2 off [.int .u32 1])),S2.rows⟩:=keeps_store (x:=.int .u32 1) hcs2 (.inr rfl) rfl
         have k4:=keeps_store (S:=⟨S2.heap.set n (.cells (overlay cs2 off [.int .u32 1])),S2.rows⟩) (b0:=S.heap.length) (off:=off + 1) (x:=.int .i32 0) hcs3 (.inr rfl) rfl
         refine ⟨K2,?_,(st1 _).trans (st2.trans ((sd _).trans ((st3 _).trans (st4 _) (fun _ h => h)) (fun _ h => h)) (fun _ h => h)) (fun _ h => h),?_,_,rfl,?_⟩
         ·rw [setC_eq hcs2,setC_eq hcs3]
          exact R4
         ·rw [setC_eq hcs2,setC_eq hcs3]
          exact keeps_trans' k1 (keeps_trans' k2 (keeps_trans' k3 k4))
         ·simp only [Rep,RepT]
          exact ⟨[],rfl,rfl⟩
       ·rw [enter59] at hv
        simp at hv
      ·simp at hp
     ·simp at hp
    ·simp at hp
   ·
    rename_i h0
    simp only [Option.some.injEq,Prod.mk.injEq] at hp
    obtain ⟨rfl,rfl⟩:=hp
    obtain ⟨c0,f0⟩:=cell_of R hmB hcs (by assumption)
    refine (Once.do_done ⟨B,off,none⟩ 1 (by decide) _ w c0).mono ?_
    rintro e w' ⟨rfl,rfl⟩
    exact ⟨K,R,Step.refl K _ _,keeps_refl _ _,_,rfl,by simp only [Rep,RepT]; exact ⟨[],rfl,rfl⟩⟩
   ·simp at hp
  ·simp at hp
 ·simp at hp
end Go.Proofs.YtmeakjgbjldkdaaGreat.Ai
namespace Go.Proofs.YtmeakjgbjldkdaaGreat.Ai
open Go Go.Sort Go.Proofs.YtmeakjgbjldkdaaGreat.Slo
noncomputable def head59 : Code:=sub1 (Tryz.f59.body.getD .skip)
theorem body59 : Tryz.f59.body = some (.seq head59 tail59):=by
 unfold head59 tail59 Tryz.f59
 rfl
theorem cpre : chkC Tryz.prog 50 pre59 head59 = true:=by
 unfold head59
 kernel_rfl
theorem strsOf_map : ∀ l : List Str,strsOf (l.map fun s => [.str s]) = some l
 | [] => rfl
 | s :: l => by simp [strsOf,strsOf_map l]
theorem overlay_two (cs : List AV) (n : Nat) (x y : AV) (h : n < cs.length) : overlay (overlay cs n [x]) n [y] = overlay cs n [y]:=by
 simp [overlay,Nat.min_eq_left (Nat.le_of_lt h),List.drop_append]
theorem put_len (o : Nat) (d : Array (List UInt8)) (us : Array Value) : (putCells encStr o d us).size = us.size:=by simp [putCells]
theorem slots_sim : PrimSim Tryz.prog 59 slotsP:=by
 intro cl hcl vs S r S' hp K w us R hI ha
 unfold slotsP at hp
 split at hp
 case isFalse => simp at hp
 rename_i hvl
 split at hp
 case h_2 => simp at hp
 rename_i e1 S1 hex
 split at hp
 case h_2 => simp at hp
 rename_i bx he0
 split at hp
 case h_2 => simp at hp
 rename_i n xrest hbx
 split at hp
 case h_2 => simp at hp
 rename_i cs hcs
 split at hp
 case h_2 => simp at hp
 rename_i b en rows h6
 split at hp
 case h_2 => simp at hp
 rename_i l hl
 split at hp
 case isFalse => simp at hp
 rename_i hc
 obtain ⟨c1,c2,c3,c4,c5,c6,c7⟩:=hc
 simp only [Option.some.injEq,Prod.mk.injEq] at hp
 obtain ⟨rfl,rfl⟩:=hp
 refine .inl ⟨enter59 _ _,?_⟩
 have hul:=ha.length
 have hE:=args_rep ha Tryz.f59.ntmps
 refine calls_of_wp Tryz.func59 body59 (wp_seq ?_)
 refine csim hcl pre59 head59 K S w {tmps:=us.toArray ++ Array.replicate (Tryz.f59.ntmps - us.toArray.size) Go.undef,defers:=[]} (args0 vs) _ cpre R hI hE (by rw [Tryz.ntmps59]; simp; omega) (Nat.le_refl _) hex _ ?_
 intro a1 w1 K1 ex R1 E1 hdf hsz hst hkp hexr
 cases ex <;> simp only [Exr] at hexr
 have hI1 : Inner S.heap.length S1:=hkp.2.1 _ (Nat.le_refl _) hI
 have hlen:=hkp.1
 simp only at hlen
 obtain ⟨-,hv0⟩:=E1 trivial 0 _ he0
 simp only [Rep] at hv0
 obtain ⟨Bx,hmx,hv0⟩:=hv0
 obtain ⟨xs,tx,hx,hxr⟩:=R1.cells bx Bx _ hmx hbx
 obtain ⟨ux,hx0,-,hxu⟩:=hxr.get 0 _ rfl
 simp only [Rep] at hxu
 obtain ⟨Bt,hmt,rfl⟩:=hxu
 obtain ⟨vt,tt,hvt,hvr⟩:=R1.cells n Bt cs hmt hcs
 have hcl6 : 6 < cs.length:=(List.getElem?_eq_some_iff.1 h6).1
 obtain ⟨u6,hv6,-,hu6⟩:=hvr.get 6 _ h6
 simp only [Rep] at hu6
 obtain ⟨base,cap,rfl,hcap,hrs,hrow⟩:=hu6
 have hrl : rows.length = l.length:=by
  obtain ⟨q1,q2⟩:=strs_vals (K:=K) hl (vals_strs hl)
  exact q2
 rcases hrow with ⟨-,h0,-⟩ | ⟨Br,o,vr,rfl,hfix,hrep,htag⟩
 ·subst h0; simp at hrl; omega
 obtain ⟨hvreq,-⟩:=strs_vals hl hrep
 obtain ⟨⟨xa,hxa,hxb⟩,-⟩:=htag
 obtain ⟨lr,hgr,hlr⟩:=hfix
 obtain ⟨ur,tr,hur,hurl⟩:=R1.rows Br lr hgr
 have hnew : w.heap.size ≤ Br:=by
  rcases hst.born Br xa hxa with ⟨⟨b',E,sz,size⟩,hy⟩ | h
  ·exfalso
   obtain ⟨E',h1,-⟩:=hst.ext.a Br b' E sz size hy
   rw [hxa] at h1
   simp only [Option.some.injEq] at h1
   subst h1
   simp only at hxb
   subst hxb
   obtain ⟨_,-,-,r0,hr0,-⟩:=R.grow Br b' E sz size hy
   have:=(List.getElem?_eq_some_iff.1 hr0).1
   omega
  ·exact h
 have hxr' : Bx ≠ Br:=fun e => by
  have:=R1.sep bx Bx hmx
  rw [e,hgr] at this
  cases this
 have htr' : Bt ≠ Br:=fun e => by
  have:=R1.sep n Bt hmt
  rw [e,hgr] at this
  cases this
 have hlrl : o + l.length ≤ lr.length:=by
  have:=congrArg List.length hlr
  rw [hvreq] at this
  simp at this
  omega
 have hlrj : ∀ j,j < l.length → lr[o + j]? = some (.string ⟨(l[j]!).toArray⟩):=by
  intro j hj
  have h1 : ((lr.drop o).take vr.length)[j]? = vr[j]?:=by rw [hlr]
  rw [hvreq] at h1
  rw [List.getElem?_take_of_lt (by simpa using hj),List.getElem?_drop,List.getElem?_map,List.getElem?_eq_getElem hj] at h1
  rw [h1,getElem!_pos l j hj]
  rfl
 have hulen : lr.length ≤ ur.size:=by
  have:=congrArg List.length hurl
  simp at this
  omega
 have hurj : ∀ j,j < lr.length → ur[j]? = lr[j]?:=by
  intro j hj
  have h1 : (ur.toList.take lr.length)[j]? = lr[j]?:=by rw [hurl]
  rw [List.getElem?_take_of_lt hj] at h1
  simpa using h1
 rw [hrl] at hv6 hcap
 refine tail_wp Bx Bt Br o cap l _ a1 w1 ?_ hdf hv0 hx ?_ hvt ?_ hur ?_ hxr' htr' (by omega) hcap ?_
 ·rw [hsz trivial,Tryz.ntmps59]
  simp
  omega
 ·simpa using hx0
 ·simpa using hv6
 ·intro j hj
  rw [hurj _ (by omega),hlrj j hj]
  simp [encStr,hj]
 intro a' w' hda hos htape hout hsize hother hBt hBr
 have R2:=R1.shut hI1
 have st2:=Step.shut R R1 hst
 have hm2 : ∀ k,k < S.heap.length → (Ai.shut K1 S.heap.length w1).m k = K1.m k:=fun k hk => by simp [Ai.shut,hk]
 have hg2 : (Ai.shut K1 S.heap.length w1).g Br = some lr:=shut_g_old hgr
 have ha2 : (Ai.shut K1 S.heap.length w1).a = K1.a:=rfl
 have hmx2:=(hm2 bx c1).trans hmx
 have hmt2:=(hm2 n c2).trans hmt
 generalize Ai.shut K1 S.heap.length w1 = K2 at R2 st2 hg2 ha2 hmx2 hmt2
 simp only at R2
 have hdd:=dedB_length (sortB l)
 have hsl:=sortB_length l
 obtain ⟨K3,hK3⟩ : ∃ K3 : Ghost,K3 = {m:=K2.m,g:=fun B => if B = Br then some (putCells encStr o (slotRow l) lr.toArray).toList else K2.g B,a:=fun B => if B = Br then none else K2.a B}:=⟨_,rfl⟩
 have k3m : K3.m = K2.m:=by rw [hK3]
 have k3g : K3.g Br = some (putCells encStr o (slotRow l) lr.toArray).toList:=by rw [hK3]; simp
 have k3go : ∀ B,B ≠ Br → K3.g B = K2.g B:=fun B hB => by rw [hK3]; simp [hB]
 have k3a : K3.a Br = none:=by rw [hK3]; simp
 have k3ao : ∀ B,B ≠ Br → K3.a B = K2.a B:=fun B hB => by rw [hK3]; simp [hB]
 clear hK3
 have hnrs : (slotRow l).size = l.length:=by simp [slotRow]; omega
 have hpj : ∀ j,(putCells encStr o (slotRow l) lr.toArray)[j]? = (lr[j]?).map fun x => if o ≤ j ∧ j < o + (slotRow l).size then encStr (slotRow l)[j - o]! else x:=by
  intro j
  simp [putCells]
 have hM : Moved l b Br K2 K3:=by
  refine ⟨k3m,k3go,k3ao,fun x hx => ?_,fun o' vs' hf hbad => ?_⟩
  ·rw [ha2,hxa] at hx
   simp only [Option.some.injEq] at hx
   subst hx
   exact hxb
  ·obtain ⟨l1,h1,h2⟩:=hf
   rw [hg2] at h1
   simp only [Option.some.injEq] at h1
   subst h1
   refine ⟨_,k3g,?_⟩
   rw [← h2]
   rw [List.length_take,List.length_drop]
   apply List.ext_getElem?
   intro j
   have hvj : j < vs'.length → vs'[j]? = lr[o' + j]?:=fun hj => by
    rw [← h2]
    rw [List.getElem?_take_of_lt hj,List.getElem?_drop]
   have hlen2 : vs'.length ≤ lr.length - o':=by
    have:=congrArg List.length h2
    simp at this
    omega
   rw [Nat.min_eq_left hlen2]
   by_cases hj : j < vs'.length
   ·rw [List.getElem?_take_of_lt hj,List.getElem?_take_of_lt hj,List.getElem?_drop,List.getElem?_drop]
    have e1 : (putCells encStr o (slotRow l) lr.toArray).toList[o' + j]? = (putCells encStr o (slotRow l) lr.toArray)[o' + j]?:=by simp
    rw [e1,hpj]
    cases hq : lr[o' + j]? with
    | none => rfl
    | some y =>
     simp only [Option.map_some,Option.some.injEq]
     by_cases hin : o ≤ o' + j ∧ o' + j < o + (slotRow l).size
     ·exfalso
      have h3:=hlrj (o' + j - o) (by omega)
      rw [show o + (o' + j - o) = o' + j by omega,hq] at h3
      simp only [Option.some.injEq] at h3
      have h4 : y ∈ vs':=List.mem_of_getElem? ((hvj hj).trans hq)
      have h5 : l[o' + j - o]! ∈ l:=by
       rw [getElem!_pos l _ (by omega)]
       exact List.getElem_mem _
      exact hbad y h4 _ h5 h3
     ·rw [if_neg hin]
   ·rw [List.getElem?_eq_none (by simp; omega),List.getElem?_eq_none (by simp; omega)]
 have hg3some : ∀ B,K2.m n = some B → B = Bt:=fun B h => by rw [hmt2] at h; exact (Option.some.inj h).symm
 have htake : (S1.heap.take S.heap.length)[n]? = some (.cells cs):=by rw [List.getElem?_take_of_lt c2]; exact hcs
 have htl : (S1.heap.take S.heap.length).length = S.heap.length:=by simp; omega
 have hBne : ∀ k B,K2.m k = some B → B ≠ Br:=fun k B h e => by
  have:=R2.sep k B h
  rw [e,hg2] at this
  cases this
 have hsame : ∀ B,(∀ k,K2.m k = some B → k ≠ n) → B ≠ Br → B < w1.heap.size → B ≠ Bt → w'.heap[B]? = w1.heap[B]?:=fun B _ h1 h2 h3 => hother B h2 h1 h3
 have hnv : Rep K3 (.list 1 .dead ((dedB (sortB l)).map fun s => [.str s])) (.slice (some ⟨Br,o,none⟩) (dedB (sortB l)).length cap):=by
  simp only [Rep]
  refine ⟨_,cap,by rw [List.length_map],by rw [List.length_map]; omega,?_,.inr ⟨Br,o,(dedB (sortB l)).map fun s => .string ⟨s.toArray⟩,rfl,⟨_,k3g,?_⟩,vals_strs (strsOf_map _),trivial⟩⟩
  ·intro r hr
   obtain ⟨s,-,rfl⟩:=List.mem_map.1 hr
   exact ⟨rfl,rfl⟩
  ·apply List.ext_getElem?
   intro j
   by_cases hj : j < (dedB (sortB l)).length
   ·rw [List.getElem?_take_of_lt (by simpa using hj),List.getElem?_drop]
    have e1 : (putCells encStr o (slotRow l) lr.toArray).toList[o + j]? = (putCells encStr o (slotRow l) lr.toArray)[o + j]?:=by simp
    rw [e1,hpj,List.getElem?_eq_getElem (by omega)]
    simp only [Option.map_some]
    rw [if_pos ⟨by omega,by omega⟩,show o + j - o = j by omega]
    have e2 : (slotRow l)[j]! = (dedB (sortB l))[j]!:=by
     rw [getElem!_pos (slotRow l) j (by omega),getElem!_pos _ j hj]
     simp [slotRow,hj]
    rw [e2,getElem!_pos _ j hj,List.getElem?_map,List.getElem?_eq_getElem hj]
    rfl
   ·rw [List.getElem?_eq_none (by simp; omega),List.getElem?_eq_none (by simp; omega)]
 have R3 : Rel K3 ⟨(S1.heap.take S.heap.length).set n (.cells (overlay cs 6 [.list 1 .dead ((dedB (sortB l)).map fun s => [.str s])])),S1.rows⟩ w':=by
  refine ⟨fun k B h => ?_,fun k k' B h h' => ?_,fun k B h => ?_,fun k B cs' h hb => ?_,fun k B es h hb => ?_,fun B l' h => ?_,fun B b' E sz size h => ?_⟩
  ·rw [k3m] at h
   have:=R2.dom k B h
   simpa using this
  ·rw [k3m] at h h'
   exact R2.inj k k' B h h'
  ·rw [k3m] at h
   rw [k3go B (hBne k B h)]
   exact R2.sep k B h
  ·rw [k3m] at h
   simp only at hb
   by_cases hk : k = n
   ·subst hk
    have:=hg3some B h
    subst this
    rw [List.getElem?_set_self (by rw [htl]; exact c2)] at hb
    simp only [Option.some.injEq,Blk.cells.injEq] at hb
    subst hb
    refine ⟨_,_,hBt,?_⟩
    obtain ⟨vt',tt',h1,h2⟩:=R2.cells k B cs h htake
    rw [hvt] at h1
    simp only [Option.some.injEq,Obj.cells.injEq,and_true] at h1
    obtain ⟨rfl,rfl⟩:=h1
    have h3 : RepL K2 [.nilp] [.pointer none]:=by simp only [RepL,Rep]; exact ⟨_,_,rfl,rfl,rfl,rfl⟩
    have h4:=Moved.repL hM _ _ (h2.overlay (off:=6) h3) c6
    have h5 : RepL K3 [.list 1 .dead ((dedB (sortB l)).map fun s => [.str s])] [.slice (some ⟨Br,o,none⟩) (dedB (sortB l)).length cap]:=by
     simp only [RepL]
     exact ⟨_,_,rfl,rfl,hnv,rfl⟩
    have h6':=h4.overlay (off:=6) h5
    rw [overlay_two _ _ _ _ hcl6] at h6'
    have hvl6 : 6 < vt.size:=by
     have:=h2.length
     simp only [Array.length_toList] at this
     omega
    have e2 : (vt.setIfInBounds 6 (.slice (some ⟨Br,o,none⟩) (dedB (sortB l)).length cap)).toList = (vt.toList.take 6 ++ [Value.pointer none] ++ vt.toList.drop (6 + 1)).take 6 ++ [Value.slice (some ⟨Br,o,none⟩) (dedB (sortB l)).length cap] ++ (vt.toList.take 6 ++ [Value.pointer none] ++ vt.toList.drop (6 + 1)).drop (6 + 1):=by
     rw [Array.toList_setIfInBounds,List.set_eq_take_append_cons_drop,if_pos (by simpa using hvl6)]
     simp [List.drop_append,Nat.min_eq_left (Nat.le_of_lt hvl6)]
    rw [e2]
    exact h6'
   ·rw [List.getElem?_set_ne (Ne.symm hk)] at hb
    obtain ⟨vs',t',h1,h2⟩:=R2.cells k B cs' h hb
    have hBt' : B ≠ Bt:=fun e => hk (R2.inj k n B h (e ▸ hmt2))
    have haw:=awH_spec c7 k _ hb (by simpa using hk)
    exact ⟨vs',t',by rw [hother B (Array.getElem?_eq_some_iff.1 h1).1 (hBne k B h) hBt']; exact h1,Moved.repL hM _ _ h2 haw⟩
  ·rw [k3m] at h
   simp only at hb
   by_cases hk : k = n
   ·subst hk
    rw [List.getElem?_set_self (by rw [htl]; exact c2)] at hb
    simp at hb
   ·rw [List.getElem?_set_ne (Ne.symm hk)] at hb
    obtain ⟨ms,ck,h1,h2⟩:=R2.maps k B es h hb
    have hBt' : B ≠ Bt:=fun e => hk (R2.inj k n B h (e ▸ hmt2))
    have haw:=awH_spec c7 k _ hb (by simpa using hk)
    exact ⟨ms,ck,by rw [hother B (Array.getElem?_eq_some_iff.1 h1).1 (hBne k B h) hBt']; exact h1,hM.repM h2 haw⟩
  ·by_cases hB : B = Br
   ·subst hB
    rw [k3g] at h
    simp only [Option.some.injEq] at h
    subst h
    refine ⟨_,_,hBr,?_⟩
    apply List.ext_getElem?
    intro j
    have el : (putCells encStr o (slotRow l) lr.toArray).toList.length = lr.length:=by simp [putCells]
    by_cases hj : j < lr.length
    ·rw [List.getElem?_take_of_lt (by rw [el]; exact hj)]
     simp only [Array.getElem?_toList,putCells,Array.getElem?_mapIdx,List.getElem?_toArray]
     rw [hurj j hj]
    ·rw [List.getElem?_eq_none (by simp [el]; omega),List.getElem?_eq_none (by rw [el]; omega)]
   ·rw [k3go B hB] at h
    obtain ⟨vs',t',h1,h2⟩:=R2.rows B l' h
    have hBt' : B ≠ Bt:=fun e => by
     have:=R2.sep n Bt hmt2
     rw [← e,h] at this
     cases this
    exact ⟨vs',t',by rw [hother B (Array.getElem?_eq_some_iff.1 h1).1 hB hBt']; exact h1,h2⟩
  ·have hB : B ≠ Br:=fun e => by rw [e,k3a] at h; cases h
   rw [k3ao B hB] at h
   obtain ⟨l',h1,⟨vs',t',h2,h3⟩,h4⟩:=R2.grow B b' E sz size h
   have hBt' : B ≠ Bt:=fun e => by
    have:=R2.sep n Bt hmt2
    rw [← e,h1] at this
    cases this
   exact ⟨l',by rw [k3go B hB]; exact h1,⟨vs',t',by rw [hother B (Array.getElem?_eq_some_iff.1 h2).1 hB hBt']; exact h2,h3⟩,h4⟩
 have hKm : K.m n = some Bt:=by
  cases hkn : K.m n with
  | none =>
   have:=st2.back n c2 hkn
   rw [hmt2] at this
   cases this
  | some B' =>
   have:=st2.ext.m n B' hkn
   rw [hmt2] at this
   exact this.symm
 have hKg : ∀ B l',K.g B = some l' → B ≠ Br:=fun B l' h e => by
  have:=g_lt R h
  omega
 have st3 : Step K (fun k => k < S.heap.length) w K3 w':=by
  refine ⟨⟨fun k B h => by rw [k3m]; exact st2.ext.m k B h,fun B l' h => ?_,fun B b' E sz size h => ?_⟩,hos.trans st2.os,htape.trans st2.tape,hout.trans st2.output,Nat.le_trans st2.size hsize,fun B hB h1 h2 => ?_,fun B hB h1 h2 => ?_,fun k hk h => by rw [k3m]; exact st2.back k hk h,fun B x h => ?_⟩
  ·rw [k3go B (hKg B l' h)]
   exact st2.ext.g B l' h
  ·obtain ⟨l0,hl0,-,-⟩:=R.grow B b' E sz size h
   obtain ⟨E',h1,h2,h3⟩:=st2.ext.a B b' E sz size h
   exact ⟨E',by rw [k3ao B (hKg B l0 hl0)]; exact h1,h2,fun x y hx hy => h3 x y hx (by rw [k3go B (hKg B x hx)] at hy; exact hy)⟩
  ·have hsz2:=st2.size
   rw [hother B (by omega) (by omega) (fun e => h1 n (e ▸ hKm))]
   exact st2.frame B hB h1 h2
  ·obtain ⟨h3,h4⟩:=st2.fresh B hB h1 h2
   exact ⟨fun k => by rw [k3m]; exact h3 k,by rw [k3go B (by omega)]; exact h4⟩
  ·have hB : B ≠ Br:=fun e => by rw [e,k3a] at h; cases h
   rw [k3ao B hB] at h
   exact st2.born B x h
 have hkt : Keeps S.heap.length S ⟨S1.heap.take S.heap.length,S1.rows⟩:=by
  have hin : ∀ k,k ≤ S.heap.length → Inner k S1 → Inner k ⟨S1.heap.take S.heap.length,S1.rows⟩:=by
   intro k hk h m x hm hb
   simp only [List.getElem?_take] at hb
   split at hb
   ·exact h m x hm hb
   ·cases hb
  refine ⟨by simp only [htl]; exact Nat.le_refl _,fun k hk h => hin k hk (hkp.2.1 k hk h),fun h => ?_⟩
  simp only [htl]
  exact hin _ (Nat.le_refl _) hI1
 have hk2 : Keeps S.heap.length ⟨S1.heap.take S.heap.length,S1.rows⟩ ⟨(S1.heap.take S.heap.length).set n (.cells (overlay cs 6 [.list 1 .dead ((dedB (sortB l)).map fun s => [.str s])])),S1.rows⟩:=
  keeps_store (S:=⟨S1.heap.take S.heap.length,S1.rows⟩) (x:=.list 1 .dead ((dedB (sortB l)).map fun s => [.str s])) htake (.inr rfl) rfl
 obtain ⟨u,hu,hr⟩:=results_sim (P:=Tryz.prog) (g:=Tryz.f59) (rs:=[]) (e:=[]) (tmps:=a'.tmps) R3 (fun t v h => by simp [eget] at h) (by kernel_rfl) rfl
 exact ⟨hda,u,hu,K3,R3,st3,keeps_trans' hkt hk2,u,rfl,hr⟩
end Go.Proofs.YtmeakjgbjldkdaaGreat.Ai
namespace Go.Proofs.YtmeakjgbjldkdaaGreat.Ai
open Go
variable {P : Program}
def tagPl : Tag → Bool
 | .row _ _ => false
 | _ => true
mutual
def plain1 : AV → Bool
 | .ptr .. | .arr .. | .map _ | .func .. => false
 | .ref cs => plainL cs
 | .list _ tag rows => tagPl tag && plainLL rows
 | .iface _ v => plain1 v
 | .agg cs => plainL cs
 | .tup cs => plainL cs
 | _ => true
def plainL : List AV → Bool
 | [] => true
 | v :: vs => plain1 v && plainL vs
def plainLL : List (List AV) → Bool
 | [] => true
 | v :: vs => plainL v && plainLL vs
end
theorem fix_g {K K' : Ghost} (hg : ∀ B l,K.g B = some l → K'.g B = some l) {B o : Nat} {vs : List Value} (h : K.fix B o vs) : K'.fix B o vs:=by
 obtain ⟨l,h1,h2⟩:=h
 exact ⟨l,hg B l h1,h2⟩
theorem tag_pl {K K' : Ghost} (_hg : ∀ B l,K.g B = some l → K'.g B = some l) {sz : Nat} {tag : Tag} {len cap B o : Nat} (ht : tagPl tag = true) (h : K.tagOk sz tag len cap B o) : K'.tagOk sz tag len cap B o:=by
 cases tag with
 | full => exact h
 | dead => trivial
 | row b e => simp [tagPl] at ht
mutual
theorem Rep.plain {K K' : Ghost} (hg : ∀ B l,K.g B = some l → K'.g B = some l) : ∀ (a : AV) (v : Value),Rep K a v → plain1 a = true → Rep K' a v
 | .bool _,_,r,_ => by simpa only [Rep] using r
 | .int _ _,_,r,_ => by simpa only [Rep] using r
 | .str _,_,r,_ => by simpa only [Rep] using r
 | .nilp,_,r,_ => by simpa only [Rep] using r
 | .nilm,_,r,_ => by simpa only [Rep] using r
 | .nilf,_,r,_ => by simpa only [Rep] using r
 | .nili,_,r,_ => by simpa only [Rep] using r
 | .undef,_,r,_ => by simpa only [Rep] using r
 | .ptr n off,v,r,hb => by simp [plain1] at hb
 | .map n,v,r,hb => by simp [plain1] at hb
 | .arr n off sz len,v,r,hb => by simp [plain1] at hb
 | .func f a b,v,r,hb => by simp [plain1] at hb
 | .ref cs,v,r,hb => by
  simp only [Rep] at r ⊢
  simp only [plain1] at hb
  obtain ⟨B,o,vs,hv,hf,hc,hr⟩:=r
  exact ⟨B,o,vs,hv,fix_g hg hf,hc,RepL.plain hg cs vs hr hb⟩
 | .list sz tag rows,v,r,hb => by
  simp only [Rep] at r ⊢
  simp only [plain1,Bool.and_eq_true] at hb
  obtain ⟨base,cap,hv,hc,hs,hr⟩:=r
  refine ⟨base,cap,hv,hc,hs,hr.imp id ?_⟩
  rintro ⟨B,o,vs,hb',hf,hr,ht⟩
  exact ⟨B,o,vs,hb',fix_g hg hf,RepLL.plain hg rows vs hr hb.2,tag_pl hg hb.1 ht⟩
 | .iface t x,v,r,hb => by
  simp only [Rep] at r ⊢
  simp only [plain1] at hb
  obtain ⟨u,hv,h1⟩:=r
  exact ⟨u,hv,Rep.plain hg x u h1 hb⟩
 | .agg cs,v,r,hb => by
  simp only [Rep] at r ⊢
  simp only [plain1] at hb
  obtain ⟨vs,hv,h1⟩:=r
  exact ⟨vs,hv,RepL.plain hg cs vs h1 hb⟩
 | .tup cs,v,r,hb => by
  simp only [Rep] at r ⊢
  simp only [plain1] at hb
  obtain ⟨vs,hv,h1⟩:=r
  exact ⟨vs,hv,RepT.plain hg cs vs h1 hb⟩
theorem RepL.plain {K K' : Ghost} (hg : ∀ B l,K.g B = some l → K'.g B = some l) : ∀ (a : List AV) (v : List Value),RepL K a v → plainL a = true → RepL K' a v
 | [],_,r,_ => by simpa only [RepL] using r
 | a :: xs,v,r,hb => by
  simp only [RepL] at r ⊢
  simp only [plainL,Bool.and_eq_true] at hb
  obtain ⟨u,us,hv,h1,h2,h3⟩:=r
  exact ⟨u,us,hv,h1,Rep.plain hg a u h2 hb.1,RepL.plain hg xs us h3 hb.2⟩
theorem RepT.plain {K K' : Ghost} (hg : ∀ B l,K.g B = some l → K'.g B = some l) : ∀ (a : List AV) (v : List Value),RepT K a v → plainL a = true → RepT K' a v
 | [],_,r,_ => by simpa only [RepT] using r
 | a :: xs,v,r,hb => by
  simp only [RepT] at r ⊢
  simp only [plainL,Bool.and_eq_true] at hb
  obtain ⟨u,us,hv,h2,h3⟩:=r
  exact ⟨u,us,hv,Rep.plain hg a u h2 hb.1,RepT.plain hg xs us h3 hb.2⟩
theorem RepLL.plain {K K' : Ghost} (hg : ∀ B l,K.g B = some l → K'.g B = some l) : ∀ (a : List (List AV)) (v : List Value),RepLL K a v → plainLL a = true → RepLL K' a v
 | [],_,r,_ => by simpa only [RepLL] using r
 | a :: xs,v,r,hb => by
  simp only [RepLL] at r ⊢
  simp only [plainLL,Bool.and_eq_true] at hb
  obtain ⟨u,us,hv,h2,h3⟩:=r
  exact ⟨u,us,hv,RepL.plain hg a u h2 hb.1,RepLL.plain hg xs us h3 hb.2⟩
end
theorem Ext.repM {K K' : Ghost} (h : Ext K K') : ∀ {es : List (Str × AV)} {l : List MapEntry},RepM K es l → RepM K' es l
 | [],_,r => by simpa only [RepM] using r
 | x :: es,l,r => by
  simp only [RepM] at r ⊢
  obtain ⟨m,ms',h1,h2,h3,h4⟩:=r
  exact ⟨m,ms',h1,h2,Rep.ext h _ _ h3,Ext.repM h h4⟩
def scal : AV → Bool
 | .bool _ | .int .. | .str _ => true
 | _ => false
theorem repT_scal {K K' : Ghost} : ∀ {vs : List AV} {us : List Value},(vs.all scal) = true → RepT K vs us → RepT K' vs us
 | [],us,_,h => by simpa only [RepT] using h
 | v :: vs,us,hs,h => by
  simp only [List.all_cons,Bool.and_eq_true] at hs
  simp only [RepT] at h ⊢
  obtain ⟨u,us',h1,h2,h3⟩:=h
  refine ⟨u,us',h1,?_,repT_scal hs.2 h3⟩
  cases v <;> simp only [scal,Bool.false_eq_true,false_and] at hs <;> simpa only [Rep] using h2
theorem post_run {K : Ghost} {S S' : St} {w w' : World} {v : AV} {e : Ending} (R : Rel K S w) (hp : plain1 v = true) (h : CallPost K0 S0 w (.ret v) S' e w') : CallPost K S w (.ret v) S e w':=by
 obtain ⟨K',R',hst,-,u,rfl,hr⟩:=h
 have hfr : ∀ B,B < w.heap.size → w'.heap[B]? = w.heap[B]?:=fun B hB => hst.frame B hB (fun n h => by simp [K0] at h) rfl
 have hnew : ∀ B l,K'.g B = some l → w.heap.size ≤ B:=by
  intro B l h
  refine Nat.le_of_not_lt fun hB => ?_
  have:=(hst.fresh B hB (fun n h => by simp [K0] at h) rfl).2
  rw [h] at this
  cases this
 have hgl : ∀ B l,K.g B = some l → B < w.heap.size:=by
  intro B l h
  obtain ⟨vs,t,h1,-⟩:=R.rows B l h
  exact (Array.getElem?_eq_some_iff.1 h1).1
 have hml : ∀ n B,K.m n = some B → B < w.heap.size:=by
  intro n B h
  have hn:=R.dom n B h
  obtain ⟨b,hb⟩ : ∃ b,S.heap[n]? = some b:=⟨_,List.getElem?_eq_getElem hn⟩
  cases b with
  | cells cs =>
   obtain ⟨vs,t,h1,-⟩:=R.cells n B cs h hb
   exact (Array.getElem?_eq_some_iff.1 h1).1
  | map es =>
   obtain ⟨vs,t,h1,-⟩:=R.maps n B es h hb
   exact (Array.getElem?_eq_some_iff.1 h1).1
 let K2 : Ghost:=⟨K.m,fun B => match K.g B with | some l => some l | none => if w.heap.size ≤ B then K'.g B else none,K.a⟩
 have g1 : ∀ B l,K.g B = some l → K2.g B = some l:=by
  intro B l h
  show (match K.g B with | some l => some l | none => if w.heap.size ≤ B then K'.g B else none) = some l
  rw [h]
 have g2 : ∀ B l,K'.g B = some l → K2.g B = some l:=by
  intro B l h
  have h1:=hnew B l h
  have h2 : K.g B = none:=by
   cases hk : K.g B with
   | none => rfl
   | some x => have:=hgl B x hk; omega
  show (match K.g B with | some l => some l | none => if w.heap.size ≤ B then K'.g B else none) = some l
  rw [h2]
  simp only
  rw [if_pos h1,h]
 have g3 : ∀ B l,K2.g B = some l → K.g B = some l ∨ (w.heap.size ≤ B ∧ K'.g B = some l):=by
  intro B l h
  change (match K.g B with | some l => some l | none => if w.heap.size ≤ B then K'.g B else none) = some l at h
  cases hk : K.g B with
  | some x => rw [hk] at h; exact .inl h
  | none =>
   rw [hk] at h
   simp only at h
   split at h
   ·rename_i h1
    exact .inr ⟨h1,h⟩
   ·cases h
 have g4 : ∀ B,B < w.heap.size → K.g B = none → K2.g B = none:=by
  intro B hB h
  cases hk : K2.g B with
  | none => rfl
  | some x =>
   rcases g3 B x hk with h1 | ⟨h1,-⟩
   ·rw [h] at h1; cases h1
   ·omega
 have hx : Ext K K2:=⟨fun n B h => h,fun B l h => ⟨[],by rw [g1 B l h,List.append_nil]⟩,fun B b E sz size h => ⟨E,h,Nat.le_refl _,fun l l' h1 h2 => by rw [g1 B l h1] at h2; cases h2; simp⟩⟩
 refine ⟨K2,⟨R.dom,R.inj,fun n B h => g4 B (hml n B h) (R.sep n B h),fun n B cs h hb => ?_,fun n B es h hb => ?_,fun B l h => ?_,fun B b E sz size h => ?_⟩,
  ⟨hx,hst.os,hst.tape,hst.output,hst.size,fun B hB _ _ => hfr B hB,fun B hB h1 h2 => ⟨h1,g4 B hB h2⟩,fun n _ h => h,fun B x h => .inl ⟨x,h⟩⟩,keeps_refl _ _,u,rfl,Rep.plain g2 v u hr hp⟩
 ·obtain ⟨vs,t,h1,h2⟩:=R.cells n B cs h hb
  exact ⟨vs,t,by rw [hfr B (hml n B h)]; exact h1,RepL.ext hx _ _ h2⟩
 ·obtain ⟨ms,ck,h1,h2⟩:=R.maps n B es h hb
  exact ⟨ms,ck,by rw [hfr B (hml n B h)]; exact h1,hx.repM h2⟩
 ·rcases g3 B l h with h1 | ⟨-,h1⟩
  ·obtain ⟨vs,t,h2,h3⟩:=R.rows B l h1
   exact ⟨vs,t,by rw [hfr B (hgl B l h1)]; exact h2,h3⟩
  ·exact R'.rows B l h1
 ·obtain ⟨l,h1,⟨vs,t,h2,h3⟩,h4⟩:=R.grow B b E sz size h
  exact ⟨l,g1 B l h1,⟨vs,t,by rw [hfr B (hgl B l h1)]; exact h2,h3⟩,h4⟩
theorem sim_run {cl : CallFn} (hcs : CallSim P cl) {f : Nat} {vs : List AV} {v : AV} {S' : St} (hx : cl f vs S0 = some (.ret v,S')) (hp : plain1 v = true) (hs : (vs.all scal) = true) {K : Ghost} {S : St} {w : World} {us : List Value} (R : Rel K S w) (ha : RepT K vs us) :
  ((callFunc f us.toArray).run P w = .ok (.enter f us.toArray) w ∧ Calls P f us.toArray w (CallPost K S w (.ret v) S)) ∨
  ∃ u w',(callFunc f us.toArray).run P w = .ok (.value u) w' ∧ CallPost K S w (.ret v) S (.returned u) w':=by
 rcases hcs f vs S0 _ S' hx K0 w us (rel0 w) (fun n b hn _ => by simp [S0] at hn) (repT_scal hs ha) with ⟨h1,h2⟩ | ⟨u,w',h1,h2⟩
 ·exact .inl ⟨h1,h2.mono fun e w' h => post_run R hp h⟩
 ·exact .inr ⟨u,w',h1,post_run R hp h2⟩
end Go.Proofs.YtmeakjgbjldkdaaGreat.Ai
