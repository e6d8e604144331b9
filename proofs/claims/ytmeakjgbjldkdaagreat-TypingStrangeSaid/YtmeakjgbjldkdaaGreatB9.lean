/- A part of what is proved: W35, W36, Ck1. No condition. -/
import Derived.Test.YtmeakjgbjldkdaaGreatB8
import Derived.Recover
import Derived.RowKit
set_option maxRecDepth 100000
set_option maxHeartbeats 16000000
noncomputable section
namespace Go.Proofs.YtmeakjgbjldkdaaGreat.Ai
open Go
def tkA:List (List AV):=[[.int .i64 1,.str [99,108,97,115,115],.int .i64 0],[.int .i64 1,.str [66],.int .i64 6],[.int .i64 3,.str [123],.int .i64 8],[.int .i64 3,.str [125],.int .i64 10],[.int .i64 1,.str [99,108,97,115,115],.int .i64 12],[.int .i64 1,.str [67],.int .i64 18],[.int .i64 1,.str [101,120,116,101,110,100,115],.int .i64 20],[.int .i64 1,.str [66],.int .i64 28],[.int .i64 3,.str [123],.int .i64 30],[.int .i64 3,.str [125],.int .i64 32],[.int .i64 1,.str [99,108,97,115,115],.int .i64 34],[.int .i64 1,.str [65],.int .i64 40],[.int .i64 3,.str [123],.int .i64 42],[.int .i64 1,.str [100,101,102],.int .i64 44],[.int .i64 1,.str [102],.int .i64 48],[.int .i64 3,.str [40],.int .i64 49],[.int .i64 1,.str [120],.int .i64 50],[.int .i64 3,.str [58],.int .i64 51],[.int .i64 1,.str [66],.int .i64 53],[.int .i64 3,.str [41],.int .i64 54],[.int .i64 3,.str [58],.int .i64 55],[.int .i64 1,.str [105,110,116],.int .i64 57],[.int .i64 3,.str [123],.int .i64 61],[.int .i64 1,.str [114,101,116,117,114,110],.int .i64 63],[.int .i64 2,.str [49],.int .i64 70],[.int .i64 3,.str [59],.int .i64 71],[.int .i64 3,.str [125],.int .i64 73],[.int .i64 1,.str [100,101,102],.int .i64 75],[.int .i64 1,.str [102],.int .i64 79],[.int .i64 3,.str [40],.int .i64 80],[.int .i64 1,.str [120],.int .i64 81],[.int .i64 3,.str [58],.int .i64 82],[.int .i64 1,.str [67],.int .i64 84],[.int .i64 3,.str [41],.int .i64 85],[.int .i64 3,.str [58],.int .i64 86],[.int .i64 1,.str [105,110,116],.int .i64 88],[.int .i64 3,.str [123],.int .i64 92],[.int .i64 1,.str [114,101,116,117,114,110],.int .i64 94],[.int .i64 2,.str [50],.int .i64 101],[.int .i64 3,.str [59],.int .i64 102],[.int .i64 3,.str [125],.int .i64 104],[.int .i64 3,.str [125],.int .i64 106],[.int .i64 1,.str [109,97,105,110],.int .i64 108],[.int .i64 3,.str [123],.int .i64 113],[.int .i64 1,.str [112,114,105,110,116],.int .i64 115],[.int .i64 1,.str [110,101,119],.int .i64 121],[.int .i64 1,.str [65],.int .i64 125],[.int .i64 3,.str [40],.int .i64 126],[.int .i64 3,.str [41],.int .i64 127],[.int .i64 3,.str [46],.int .i64 128],[.int .i64 1,.str [102],.int .i64 129],[.int .i64 3,.str [40],.int .i64 130],[.int .i64 1,.str [110,101,119],.int .i64 131],[.int .i64 1,.str [67],.int .i64 135],[.int .i64 3,.str [40],.int .i64 136],[.int .i64 3,.str [41],.int .i64 137],[.int .i64 3,.str [41],.int .i64 138],[.int .i64 3,.str [59],.int .i64 139],[.int .i64 3,.str [125],.int .i64 141]]
def tsA:Jk:=[99,108,97,115,115,32,66,32,123,32,125,32,99,108,97,115,115,32,67,32,101,120,116,101,110,100,115,32,66,32,123,32,125,32,99,108,97,115,115,32,65,32,123,32,100,101,102,32,102,40,120,58,32,66,41,58,32,105,110,116,32,123,32,114,101,116,117,114,110,32,49,59,32,125,32,100,101,102,32,102,40,120,58,32,67,41,58,32,105,110,116,32,123,32,114,101,116,117,114,110,32,50,59,32,125,32,125,32,109,97,105,110,32,123,32,112,114,105,110,116,32,110,101,119,32,65,40,41,46,102,40,110,101,119,32,67,40,41,41,59,32,125]
def q89:Kn:=⟨89,[.str tsA],
 ⟨[.cells [.list 0 .full [],.list 0 .full []],.cells [.list 0 .full [],.list 0 .full []],.cells [.list 0 .full [],.list 0 .full []]],[]⟩,
 (.ret (.tup [.list 3 (.row 0 59) tkA,.int .i64 0,.int .i64 0])),
 ⟨[.cells [.list 0 .full [],.list 0 .full []],.cells [.list 0 .full [],.list 0 .full []],.cells [.list 0 .full [],.list 0 .full []]],[59]⟩⟩
def JSq:Kn:=⟨91,[.ptr 3 0],
 ⟨[.cells [.list 0 .full [],.list 0 .full []],.cells [.list 0 .full [],.list 0 .full []],.cells [.list 0 .full [],.list 0 .full []],.cells [.list 3 (.row 0 59) tkA,.int .i64 0,.int .i64 142,.int .i64 0,.int .i64 0,.int .i64 0],.cells [.list 0 .full [],.list 0 .full []]],[59]⟩,
 (.ret (.agg [.str [66],.bool false,.str [],.list 0 .full [],.list 0 .full [],.list 0 .full [],.list 0 .full [],.list 0 .full [],.int .i64 6])),
 ⟨[.cells [.list 0 .full [],.list 0 .full []],.cells [.list 0 .full [],.list 0 .full []],.cells [.list 0 .full [],.list 0 .full []],.cells [.list 3 (.row 0 59) tkA,.int .i64 4,.int .i64 142,.int .i64 0,.int .i64 0,.int .i64 0],.cells [.list 0 .full [],.list 0 .full []]],[59]⟩⟩
def JSr:Kn:=⟨91,[.ptr 3 0],
 ⟨[.cells [.list 0 .full [],.list 0 .full []],.cells [.list 0 .full [],.list 0 .full []],.cells [.list 0 .full [],.list 0 .full []],.cells [.list 3 (.row 0 59) tkA,.int .i64 4,.int .i64 142,.int .i64 0,.int .i64 0,.int .i64 0],.cells [.list 9 (.row 1 1) [[.str [66],.bool false,.str [],.list 0 .full [],.list 0 .full [],.list 0 .full [],.list 0 .full [],.list 0 .full [],.int .i64 6]],.list 0 .full []]],[59,1]⟩,
 (.ret (.agg [.str [67],.bool false,.str [66],.list 0 .full [],.list 0 .full [],.list 0 .full [],.list 0 .full [],.list 0 .full [],.int .i64 18])),
 ⟨[.cells [.list 0 .full [],.list 0 .full []],.cells [.list 0 .full [],.list 0 .full []],.cells [.list 0 .full [],.list 0 .full []],.cells [.list 3 (.row 0 59) tkA,.int .i64 10,.int .i64 142,.int .i64 0,.int .i64 0,.int .i64 0],.cells [.list 9 (.row 1 1) [[.str [66],.bool false,.str [],.list 0 .full [],.list 0 .full [],.list 0 .full [],.list 0 .full [],.list 0 .full [],.int .i64 6]],.list 0 .full []]],[59,1]⟩⟩
def JSs:Kn:=⟨91,[.ptr 3 0],
 ⟨[.cells [.list 0 .full [],.list 0 .full []],.cells [.list 0 .full [],.list 0 .full []],.cells [.list 0 .full [],.list 0 .full []],.cells [.list 3 (.row 0 59) tkA,.int .i64 10,.int .i64 142,.int .i64 0,.int .i64 0,.int .i64 0],.cells [.list 9 (.row 1 2) [[.str [66],.bool false,.str [],.list 0 .full [],.list 0 .full [],.list 0 .full [],.list 0 .full [],.list 0 .full [],.int .i64 6],[.str [67],.bool false,.str [66],.list 0 .full [],.list 0 .full [],.list 0 .full [],.list 0 .full [],.list 0 .full [],.int .i64 18]],.list 0 .full []]],[59,2]⟩,
 (.ret (.agg [.str [65],.bool false,.str [],.list 0 .full [],.list 0 .full [],.list 0 .full [],.list 0 .full [],.list 11 .dead [[.str [102],.list 8 .dead [[.str [120],.int .i64 3,.str [66],.bool false,.list 0 .full [],.list 0 .full [],.int .i64 53,.int .i64 50]],.int .i64 1,.str [],.bool false,.list 0 .full [],.list 0 .full [],.int .i64 57,.list 7 .dead [[.str [114,101,116,117,114,110],.str [],.list 0 .full [],.list 5 .dead [[.str [110,117,109],.str [49],.list 0 .full [],.list 0 .full [],.int .i64 70]],.list 0 .full [],.list 0 .full [],.int .i64 63]],.bool false,.int .i64 48],[.str [102],.list 8 .dead [[.str [120],.int .i64 3,.str [67],.bool false,.list 0 .full [],.list 0 .full [],.int .i64 84,.int .i64 81]],.int .i64 1,.str [],.bool false,.list 0 .full [],.list 0 .full [],.int .i64 88,.list 7 .dead [[.str [114,101,116,117,114,110],.str [],.list 0 .full [],.list 5 .dead [[.str [110,117,109],.str [50],.list 0 .full [],.list 0 .full [],.int .i64 101]],.list 0 .full [],.list 0 .full [],.int .i64 94]],.bool false,.int .i64 79]],.int .i64 40])),
 ⟨[.cells [.list 0 .full [],.list 0 .full []],.cells [.list 0 .full [],.list 0 .full []],.cells [.list 0 .full [],.list 0 .full []],.cells [.list 3 (.row 0 59) tkA,.int .i64 42,.int .i64 142,.int .i64 0,.int .i64 0,.int .i64 0],.cells [.list 9 (.row 1 2) [[.str [66],.bool false,.str [],.list 0 .full [],.list 0 .full [],.list 0 .full [],.list 0 .full [],.list 0 .full [],.int .i64 6],[.str [67],.bool false,.str [66],.list 0 .full [],.list 0 .full [],.list 0 .full [],.list 0 .full [],.list 0 .full [],.int .i64 18]],.list 0 .full []]],[59,2,1,1,2,1,1]⟩⟩
def q51:Kn:=⟨51,[.str tsA],
 ⟨[.cells [.list 0 .full [],.list 0 .full []],.cells [.list 0 .full [],.list 0 .full []]],[]⟩,
 (.ret (.tup [.agg [.list 9 .dead [[.str [66],.bool false,.str [],.list 0 .full [],.list 0 .full [],.list 0 .full [],.list 0 .full [],.list 0 .full [],.int .i64 6],[.str [67],.bool false,.str [66],.list 0 .full [],.list 0 .full [],.list 0 .full [],.list 0 .full [],.list 0 .full [],.int .i64 18],[.str [65],.bool false,.str [],.list 0 .full [],.list 0 .full [],.list 0 .full [],.list 0 .full [],.list 11 .dead [[.str [102],.list 8 .dead [[.str [120],.int .i64 3,.str [66],.bool false,.list 0 .full [],.list 0 .full [],.int .i64 53,.int .i64 50]],.int .i64 1,.str [],.bool false,.list 0 .full [],.list 0 .full [],.int .i64 57,.list 7 .dead [[.str [114,101,116,117,114,110],.str [],.list 0 .full [],.list 5 .dead [[.str [110,117,109],.str [49],.list 0 .full [],.list 0 .full [],.int .i64 70]],.list 0 .full [],.list 0 .full [],.int .i64 63]],.bool false,.int .i64 48],[.str [102],.list 8 .dead [[.str [120],.int .i64 3,.str [67],.bool false,.list 0 .full [],.list 0 .full [],.int .i64 84,.int .i64 81]],.int .i64 1,.str [],.bool false,.list 0 .full [],.list 0 .full [],.int .i64 88,.list 7 .dead [[.str [114,101,116,117,114,110],.str [],.list 0 .full [],.list 5 .dead [[.str [110,117,109],.str [50],.list 0 .full [],.list 0 .full [],.int .i64 101]],.list 0 .full [],.list 0 .full [],.int .i64 94]],.bool false,.int .i64 79]],.int .i64 40]],.list 7 .dead [[.str [112,114,105,110,116],.str [],.list 0 .full [],.list 5 .dead [[.str [99,97,108,108],.str [102],.list 5 .dead [[.str [110,101,119],.str [65],.list 0 .full [],.list 0 .full [],.int .i64 121],[.str [110,101,119],.str [67],.list 0 .full [],.list 0 .full [],.int .i64 131]],.list 0 .full [],.int .i64 129]],.list 0 .full [],.list 0 .full [],.int .i64 115]]],.int .i64 0,.int .i64 0])),
 ⟨[.cells [.list 0 .full [],.list 0 .full []],.cells [.list 0 .full [],.list 0 .full []]],[59,3,1,1,2,1,1,1,2,1]⟩⟩
def q41:Kn:=⟨41,[.str tsA],
 ⟨[],[]⟩,
 (.ret (.tup [.agg [.list 9 .dead [[.str [66],.bool false,.str [],.list 0 .full [],.list 0 .full [],.list 0 .full [],.list 0 .full [],.list 0 .full [],.int .i64 6],[.str [67],.bool false,.str [66],.list 0 .full [],.list 0 .full [],.list 0 .full [],.list 0 .full [],.list 0 .full [],.int .i64 18],[.str [65],.bool false,.str [],.list 0 .full [],.list 0 .full [],.list 0 .full [],.list 0 .full [],.list 11 .dead [[.str [102],.list 8 .dead [[.str [120],.int .i64 3,.str [66],.bool false,.list 0 .full [],.list 0 .full [],.int .i64 53,.int .i64 50]],.int .i64 1,.str [],.bool false,.list 0 .full [],.list 0 .full [],.int .i64 57,.list 7 .dead [[.str [114,101,116,117,114,110],.str [],.list 0 .full [],.list 5 .dead [[.str [110,117,109],.str [49],.list 0 .full [],.list 0 .full [],.int .i64 70]],.list 0 .full [],.list 0 .full [],.int .i64 63]],.bool false,.int .i64 48],[.str [102],.list 8 .dead [[.str [120],.int .i64 3,.str [67],.bool false,.list 0 .full [],.list 0 .full [],.int .i64 84,.int .i64 81]],.int .i64 1,.str [],.bool false,.list 0 .full [],.list 0 .full [],.int .i64 88,.list 7 .dead [[.str [114,101,116,117,114,110],.str [],.list 0 .full [],.list 5 .dead [[.str [110,117,109],.str [50],.list 0 .full [],.list 0 .full [],.int .i64 101]],.list 0 .full [],.list 0 .full [],.int .i64 94]],.bool false,.int .i64 79]],.int .i64 40]],.list 7 .dead [[.str [112,114,105,110,116],.str [],.list 0 .full [],.list 5 .dead [[.str [99,97,108,108],.str [102],.list 5 .dead [[.str [110,101,119],.str [65],.list 0 .full [],.list 0 .full [],.int .i64 121],[.str [110,101,119],.str [67],.list 0 .full [],.list 0 .full [],.int .i64 131]],.list 0 .full [],.int .i64 129]],.list 0 .full [],.list 0 .full [],.int .i64 115]]],.bool true])),
 ⟨[],[59,3,1,1,2,1,1,1,2,1]⟩⟩
theorem J1n:∀ k∈([]:List Kn),Jae k:=λk h=>EB
theorem J1o:Jae q89:=JaK J1n q89 (n:=300) Ae
theorem JSt:∀ k∈([]:List Kn),Jae k:=λk h=>EB
theorem JSu:Jae JSq:=JaK JSt JSq (n:=300) Ae
theorem JSv:∀ k∈([]:List Kn),Jae k:=λk h=>EB
theorem JSw:Jae JSr:=JaK JSv JSr (n:=300) Ae
theorem JSx:∀ k∈([]:List Kn),Jae k:=λk h=>EB
theorem JSy:Jae JSs:=JaK JSx JSs (n:=300) Ae
theorem J1p:∀ k∈([q89,JSq,JSr,JSs]:List Kn),Jae k:=by
 intro k hk;simp only[AS,CH,or_false]at hk;rcases hk with rfl |rfl |rfl |rfl
 ·exact J1o
 ·exact JSu
 ·exact JSw
 ·exact JSy
theorem J1q:Jae q51:=JaK J1p q51 (n:=300) Ae
theorem J1r:∀ k∈([q51]:List Kn),Jae k:=by
 intro k hk;simp only[AS,CH,or_false]at hk;rcases hk with rfl
 ·exact J1q
theorem J1s:Jae q41:=JaK J1r q41 (n:=300) Ae
def sb1:Code->Code
 | .seq a _=>a
 | c=>c
def Zg:Code->Code
 | .seq _ b=>b
 | c=>c
def sbT:Code->Code
 | .cond _ b _=>b
 | c=>c
noncomputable def a42:Code:=sb1 (Tryz.f42.body.getD .skip)
noncomputable def b42:Code:=sb1 (Zg (Tryz.f42.body.getD .skip))
noncomputable def c42:Code:=sb1 (Zg (Zg (Tryz.f42.body.getD .skip)))
noncomputable def d42:Code:=sb1 (Zg (Zg (Zg (Tryz.f42.body.getD .skip))))
noncomputable def e42:Code:=Zg (Zg (Zg (Zg (Tryz.f42.body.getD .skip))))
theorem JSz:Tryz.f42.body=some (.seq a42 (.seq b42 (.seq c42 (.seq d42 e42)))):=by unfold a42 b42 c42 d42 e42 Tryz.f42;rfl
noncomputable def a76:Code:=sb1 (Tryz.f76.body.getD .skip)
noncomputable def b76:Code:=sb1 (Zg (Tryz.f76.body.getD .skip))
noncomputable def t76:Code:=sbT (Zg (Zg (Tryz.f76.body.getD .skip)))
theorem Jwv:Tryz.f76.body=some (.seq a76 (.seq b76 (.cond (.tmp 8) t76 .skip))):=by unfold a76 b76 t76 Tryz.f76;rfl
theorem JDB:Yn Tryz.prog Tryz.f42.ntmps Jk5 a42=true:=by unfold a42;kernel_rfl
theorem JDC:Yn Tryz.prog Tryz.f42.ntmps Jk6 b42=true:=by unfold b42;kernel_rfl
theorem Jr1:Yn Tryz.prog Tryz.f42.ntmps Jqa c42=true:=by unfold c42;kernel_rfl
theorem Jr2:Yn Tryz.prog Tryz.f42.ntmps Jqb e42=true:=by unfold e42;kernel_rfl
theorem JDD:Yn Tryz.prog Tryz.f76.ntmps Jj3 t76=true:=by unfold t76;kernel_rfl
theorem JEA:zC [2,3,4] Jqb=true:=Ae
theorem Jqg:JeM Tryz.prog Jce Tryz.f42.results.toList=true:=Ae
theorem JDE(us:Array Value)(w:World):(callFunc 42 us).run Tryz.prog w=.ok (.enter 42 us) w:=by
 have hf:=Tryz.func42;have hb:Tryz.f42.body.isSome=true:=Ae;have h2:(Tryz.f42.name != "runtime.NumGoroutine")=true:=Ae;obtain⟨c,hc⟩:=BQ.1 hb;have h3:¬Tryz.f42.name = "runtime.NumGoroutine":=Fo
 simp[callFunc,hf,h3,hc]
theorem JDF(us:Array Value)(w:World):(callFunc 76 us).run Tryz.prog w=.ok (.enter 76 us) w:=by
 have hf:=Tryz.func76;have hb:Tryz.f76.body.isSome=true:=Ae;have h2:(Tryz.f76.name != "runtime.NumGoroutine")=true:=Ae;obtain⟨c,hc⟩:=BQ.1 hb;have h3:¬Tryz.f76.name = "runtime.NumGoroutine":=Fo
 simp[callFunc,hf,h3,hc]
theorem JEB:∃ ms,Tryz.prog.underlying 20=some (.interface ms):=by
 have h:(match Tryz.prog.underlying 20 with |some (.interface _)=>true |_=>false)=true:=Ae;split at h
 ·rename_i ms hm;exact⟨ms,hm⟩
 ·cases h
theorem Jww(w:World):(binOp .neq 20 .nilIface .nilIface).run Tryz.prog w=.ok (.bool false) w:=by
 obtain⟨ms,hm⟩:=JEB;have h:∀ d:Nat,(Op.equalIn (d+1) 20 .nilIface .nilIface).run Tryz.prog w=.ok true w:=λd=>by simp[Op.equalIn,run_underlying hm]
 simp only[binOp];simp[Op.equal,Op.maxDepth,h 9999]
theorem Jwx(t:TypeId)(v:Value)(w:World):(binOp .neq 20 (.iface t v) .nilIface).run Tryz.prog w=.ok (.bool true) w:=by
 obtain⟨ms,hm⟩:=JEB;have h:∀ d:Nat,(Op.equalIn (d+1) 20 (.iface t v) .nilIface).run Tryz.prog w=.ok false w:=λd=>by simp[Op.equalIn,run_underlying hm]
 simp only[binOp];simp[Op.equal,Op.maxDepth,h 9999]
theorem Jqh(c:Frame){u:FrameMode}(h:c.mode=u):{c with mode:=u}=c:=by subst h;rfl
theorem Jwy{Q:Exit->Act->List Frame->World->Prop}{x y z:Value}{w:World}{c₀:Frame}{cs:List Frame}(hu:c₀.mode=.returning)(hq:∀ a',a'.defers=[]->Q .normal a' (c₀::cs) w) :
  (Code.seq a76 (.seq b76 (.cond (.tmp 8) t76 .skip))).wpS Tryz.prog Q {tmps:=#[x,y,z]++Array.replicate (Tryz.f76.ntmps-3) Go.undef,defers:=[]} (c₀::cs) w:=by
 have h1:=Jww;apply wpS_seq;unfold a76 Tryz.f76;dsimp only[Option.getD_some,sb1];apply wpS_region;simp[wpOpsS,go_sem,recoverD,hu,Exit.thenS];apply wpS_seq;unfold b76 Tryz.f76;dsimp only[Option.getD_some,sb1,Zg];apply wpS_region;simp[wpOpsS,go_sem,recoverD,hu,h1,Exit.thenS];refine wpS_cond (t:=false) (by simp[Act.eval,Array.replicate]) ?_;simp only[AT,if_false];exact wpS_of_wp (wp_skip (hq _ rfl))
theorem Jtf{Q:Exit->Act->List Frame->World->Prop}{x y z:Value}{w:World}{c₀:Frame}{cs:List Frame}{t:TypeId}{v:Value}(hu:c₀.mode=.panicking [{v:=.iface t v,recovered:=false}])
  (hq:∀ a',a'.defers=[]->a'.tmps.size=Tryz.f76.ntmps->a'.tmps.getD 0 Go.undef=x->a'.tmps.getD 1 Go.undef=y->a'.tmps.getD 2 Go.undef=z->a'.tmps.getD 3 Go.undef=.iface t v ->
   t76.wp Tryz.prog (λe a w=>Q e a ({c₀ with mode:=.panicking [{v:=.iface t v,recovered:=true}]}::cs) w) a' w) :
  (Code.seq a76 (.seq b76 (.cond (.tmp 8) t76 .skip))).wpS Tryz.prog Q {tmps:=#[x,y,z]++Array.replicate (Tryz.f76.ntmps-3) Go.undef,defers:=[]} (c₀::cs) w:=by
 have h1:=Jwx;apply wpS_seq;unfold a76 Tryz.f76;dsimp only[Option.getD_some,sb1];apply wpS_region;simp[wpOpsS,go_sem,recoverD,hu,Exit.thenS];apply wpS_seq;unfold b76 Tryz.f76;dsimp only[Option.getD_some,sb1,Zg];apply wpS_region;simp[wpOpsS,go_sem,recoverD,h1,Exit.thenS];refine wpS_cond (t:=true) (by simp[Act.eval,Array.replicate]) ?_;simp only[if_true];refine wpS_of_wp (hq _ rfl ?_ ?_ ?_ ?_ ?_)
 ·simp[Tryz.ntmps76]
 all_goals simp
theorem JSA(x y z:Value)(w:World):CallsD Tryz.prog 76 #[x,y,z] .returning w λe u' w'=>e=.returned (.tuple #[])/\u'=.returning/\w'=w:=by refine callsD_of_wpS Tryz.func76 Jwv λc₀ cs hu=>?_;refine Jwy hu λa' ha=>?_;refine⟨ha,.returning,by rw[Jqh c₀ hu],.tuple #[],?_,rfl,rfl,rfl⟩;have hr:Tryz.f76.results=#[]:=rfl;simp[results]
theorem JDG{b0 n:Nat}{cl:Ky}(hcl:VF Tryz.prog cl){K:Ghost}{S S':St}{w:World}{x y z:AV}{vx vy vz v:Value}{t:Nat}{av:AV}{e':KC}(R:Rel K S w)(hI:VL S.heap.length S)(hb0:b0<=S.heap.length)
  (hx:Rep K x vx) (hy:Rep K y vy) (hz:Rep K z vz) (hv:Rep K (.iface t av) v) (hex:Qr b0 cl n Jj3 [(0,x),(1,y),(2,z),(3,.iface t av)] S=some (.normal,e',S')) :
  CallsD Tryz.prog 76 #[vx,vy,vz] (.panicking [{v:=v,recovered:=false}]) w λe u' w'=>e=.returned (.tuple #[])/\u'=.panicking [{v:=v,recovered:=true}]/\∃ K',Rel K' S' w'/\Step K (λn=>n<S.heap.length) w K' w'/\Keeps b0 S S':=by
 simp only[Rep]at hv;obtain⟨u,rfl,hu⟩:=hv;refine callsD_of_wpS Tryz.func76 Jwv λc₀ cs hm=>?_;refine Jtf hm λa' hd hs h0 h1 h2 h3=>?_;have hn:Tryz.f76.ntmps=20:=rfl;have E:EnvRep K (Jj [(0,x),(1,y),(2,z),(3,.iface t av)]) a'.tmps:=by
  intro j q hj;simp only[Jj]at hj;split at hj
  ·rename_i e;subst e;simp only[V]at hj;subst hj;exact⟨O,by rw[h0];exact hx⟩
  split at hj
  ·rename_i e;subst e;simp only[V]at hj;subst hj;exact⟨O,by rw[h1];exact hy⟩
  split at hj
  ·rename_i e;subst e;simp only[V]at hj;subst hj;exact⟨O,by rw[h2];exact hz⟩
  split at hj
  ·rename_i e;subst e;simp only[V]at hj;subst hj;refine⟨O,?_⟩;rw[h3];simp only[Rep];exact⟨u,rfl,hu⟩
  ·cases hj
 refine Jdx hcl Jj3 t76 K S w a' _ _ JDD R hI E O hb0 hex _ ?_;intro a2 w2 K2 en R2 E2 hd2 hs2 hst hk hxr;cases en <;> simp only[Exr]at hxr
 refine⟨hd2.trans hd,.panicking [{v:=.iface t u,recovered:=true}],rfl,.tuple #[],?_,rfl,rfl,K2,R2,hst,hk⟩;have hr:Tryz.f76.results=#[]:=rfl;simp[results]
theorem Jtg{l:List Nat}{e:KC}{t:Nat}(h:t ∉ l):Jj (Ai.keep l e) t=none:=by
 cases hx:Jj (Ai.keep l e) t with
 | none=>rfl
 | some v=>
  exfalso;induction l with
  | nil=>simp[Ai.keep,Jj]at hx
  | cons x l ih=>
   simp only[AS,not_or]at h;simp only[Ai.keep,BY]at hx;cases hy:Jj e x with
   | none=>simp only[hy,B4]at hx;exact ih h.2 hx
   | some u=>
    simp only[hy,A9,Jj]at hx;split at hx
    ·rename_i hxt;exact h.1 hxt.symm
    ·exact ih h.2 hx
theorem JSB{a:Act}{w:World}{Q:Exit->Act->World->Prop}(hd:a.defers=[])
  (hq:∀ u,Q .normal {tmps:=(a.put (some 18) u).tmps,defers:=[{target:=.fn (.func 76) #[a.tmps.getD 2 Go.undef,a.tmps.getD 3 Go.undef,a.tmps.getD 4 Go.undef],args:=#[]}]} w) (hs:a.tmps.size=Tryz.f42.ntmps):d42.wp Tryz.prog Q a w:=by
 have hn:Tryz.f42.ntmps=51:=rfl;unfold d42 Tryz.f42;dsimp only[Option.getD_some,sb1,Zg];refine wp_region ?_;have hmf:∀(fn:Fn) (first cap:Array Value) (w:World),(Instr.makeFunc fn first cap).run Tryz.prog w=.ok (.func fn first cap) w:=λ_ _ _ _=>rfl;simp[wpOps,go_sem];left;left;have h18:18<a.tmps.size:=by rw[hs,hn];omega
 rw[if_pos h18];simp only[Bg,AW,Oper.upon,hd];have:=hq (.func (.func 76) #[] #[a.tmps.getD 2 Go.undef,a.tmps.getD 3 Go.undef,a.tmps.getD 4 Go.undef]);simp only[Act.put,AX]at this;exact this
theorem JjH{P:Program}{K K2:Ghost}{S S2:St}{w w2:World}{a2:Array Value}{e2:KC}{res:List RVar}{g:Func}{r:Res}{S':St}(R:Rel K S w)(hI:VL S.heap.length S)(R2:Rel K2 S2 w2)(E2:EnvRep K2 (Jj e2) a2)
  (hst:Step K (λn=>n<S.heap.length) w K2 w2) (hk:Keeps S.heap.length S S2) (hr:Jp9 res S.heap.length e2 S2=some (r,S')) (hb:JeM P res g.results.toList=true) :
  ∃ v,(results g a2).run P w2=.ok v w2/\Xw K S w r S' (.returned v) w2:=by
 unfold Jp9 at hr;cases hv:QT res e2 S2.heap with
 | none=>rw[hv]at hr;cases hr
 | some rs=>rw[hv]at hr;simp only[V,AP]at hr;obtain⟨rfl,rfl⟩:=hr;obtain⟨u,hu,hrr⟩:=JaQ (P:=P) (g:=g) R2 E2 hb hv;obtain⟨K3,R3,hst3,hkp3,hr3⟩:=JdZ R hI R2 hst hk hrr;exact⟨u,hu,K3,R3,hst3,hkp3,u,rfl,hr3⟩
theorem JEC(x y z:Value)(w:World):(invoke (.fn (.func 76) #[x,y,z]) #[]).run Tryz.prog w=.ok (.enter 76 #[x,y,z]) w:=by simp only[invoke];exact JDF _ _
theorem Jle:ZL Tryz.prog 42 (Jj2 Jk5 Jk6 Jqa Jqb Jj3 Jce):=by
 intro cl hcl vs S r S' hp K w us R hI ha;obtain⟨hl1,n,hn⟩:=Jk3 hp;clear hp;have hul:us.toArray.size=1:=by have:=ha.length;simp only[BZ];omega
 refine .inl ⟨JDE _ _,?_⟩;have hE:=Jis ha Tryz.f42.ntmps;have hnn:Tryz.f42.ntmps=51:=rfl;unfold Jhj at hn;refine calls_of_wp_defers Tryz.func42 JSz ?_;split at hn
 case h_2=>cases hn
 rename_i e0 S0 h0;refine wp_seq (Jdx hcl _ _ K S w _ _ _ JDB R hI hE AR (Ao _) h0 _ ?_);intro a0 w0 K0 en R0 E0 hd0 hs0 hst0 hk0 hx0;cases en <;> simp only[Exr]at hx0
 replace E0:=E0 trivial;replace hs0:=hs0 trivial;try simp only at hd0 hs0
 have hsz0:a0.tmps.size=us.toArray.size+(Tryz.f42.ntmps-us.toArray.size):=by rw[hs0];simp
 split at hn
 case h_2=>cases hn
 rename_i e1 S1 h1;refine wp_seq (Jdx hcl _ _ K0 S0 w0 _ _ _ JDC R0 (hk0.2.2 hI) E0 O hk0.1 h1 _ ?_);intro a1 w1 K1 en R1 E1 hd1 hs1 hst1 hk1 hx1;cases en <;> simp only[Exr]at hx1
 replace E1:=E1 trivial;replace hs1:=hs1 trivial;try simp only at hd1 hs1
 have hk1:=hk0.trans hk1;have hst1:=hst0.trans hst1 (λm hm=>Bh hm hk0.1);split at hn
 case h_3=>cases hn
 ·
  rename_i e2 S2 h2;refine wp_seq (Jdx hcl _ _ K1 S1 w1 _ _ _ Jr1 R1 (hk1.2.2 hI) E1 O hk1.1 h2 _ ?_);intro a2 w2 K2 en R2 E2 hd2 hs2 hst2 hk2 hx2;cases en <;> simp only[Exr]at hx2
  have hst2:=hst1.trans hst2 (λm hm=>Bh hm hk1.1);obtain⟨v,hv,hpost⟩:=JjH R hI R2 (E2 trivial) hst2 (hk1.trans hk2) hn Jqg;have hdf:a2.defers=[]:=hd2.trans (hd1.trans hd0);show Leaves _ _ _ _ a2.defers _ _;rw[hdf];exact⟨v,hv,hpost⟩
 rename_i e2 S2 h2;refine wp_seq (Jdx hcl _ _ K1 S1 w1 _ _ _ Jr1 R1 (hk1.2.2 hI) E1 O hk1.1 h2 _ ?_);intro a2 w2 K2 en R2 E2 hd2 hs2 hst2 hk2 hx2;cases en <;> simp only[Exr]at hx2
 replace E2:=E2 trivial;replace hs2:=hs2 trivial;try simp only at hd2 hs2
 have hk2:=hk1.trans hk2;have hst2:=hst1.trans hst2 (λm hm=>Bh hm hk1.1);have hdf:a2.defers=[]:=hd2.trans (hd1.trans hd0);by_cases hsz:a2.tmps.size=Tryz.f42.ntmps
 case neg=>exact absurd (by rw[hs2,hs1,hsz0];omega) hsz
 refine wp_seq (JSB hdf (λu=>?_) hsz);have E2k:EnvRep K2 (Jj (Ai.keep [1,2,3,4] e2)) (a2.put (some 18) u).tmps:=(E2.keep _).other (Jtg Aj);have hg:∀ t,t≠18->(a2.put (some 18) u).tmps.getD t Go.undef=a2.tmps.getD t Go.undef:=λt ht=>by simp[Act.put,Ne.symm ht]
 generalize hap:({tmps:=(a2.put (some 18) u).tmps,defers:=[{target:=.fn (.func 76) #[a2.tmps.getD 2 Go.undef,a2.tmps.getD 3 Go.undef,a2.tmps.getD 4 Go.undef],args:=#[]}]}:Act)=ap;have hapt:ap.tmps=(a2.put (some 18) u).tmps:=by rw[<- hap]
 have hapd:ap.defers=[{target:=.fn (.func 76) #[a2.tmps.getD 2 Go.undef,a2.tmps.getD 3 Go.undef,a2.tmps.getD 4 Go.undef],args:=#[]}]:=by rw[<- hap]
 rw[<- hapt]at E2k hg;have haps:ap.tmps.size=Tryz.f42.ntmps:=by rw[hapt];simp[Act.put,hsz]
 clear hap;split at hn
 case h_3=>cases hn
 ·
  rename_i e3 S3 h3;refine Jc4 (zs:=[2,3,4]) hcl _ _ K2 S2 w2 ap _ _ JEA Jr2 R2 (hk2.2.2 hI) E2k O hk2.1 h3 _ ?_;intro a3 w3 K3 en R3 E3 hd3 hs3 hst3 hk3 hx3;cases en <;> simp only[Exr]at hx3
  have hst3:=hst2.trans hst3 (λm hm=>Bh hm hk2.1);obtain⟨v,hv,hpost⟩:=JjH R hI R3 (E3 trivial) hst3 (hk2.trans hk3) hn Jqg;show Leaves _ _ _ _ a3.defers _ _;rw[hd3.1,hapd];refine leaves_cons (f:=76) Ag (JEC _ _ _ _) ?_;refine(JSA _ _ _ _).mono ?_;rintro e u' w' ⟨rfl,rfl,rfl⟩;exact⟨v,hv,hpost⟩
 ·
  rename_i tt v e3 S3 h3;split at hn
  case h_2=>cases hn
  rename_i x y z hx hy hz;split at hn
  case h_2=>cases hn
  rename_i e4 S4 h4;refine Jc4 (zs:=[2,3,4]) hcl _ _ K2 S2 w2 ap _ _ JEA Jr2 R2 (hk2.2.2 hI) E2k O hk2.1 h3 _ ?_;intro a3 w3 K3 en R3 E3 hd3 hs3 hst3 hk3 hx3;cases en <;> simp only[Exr]at hx3
  obtain⟨u3,rfl,hu3⟩:=hx3;have hst3':=hst3;have hst3:=hst2.trans hst3 (λm hm=>Bh hm hk2.1);have hk3:=hk2.trans hk3;have hrx:∀(t:Nat) (q:AV),t≠18->Jj e2 t=some q->Rep K3 q (a2.tmps.getD t Go.undef):=λt q _ hq=>Rep.ext hst3'.ext _ _ (E2 t q hq).2;show Leaves _ _ _ _ a3.defers _ _;rw[hd3.1,hapd];refine leaves_cons (f:=76) Ag (JEC _ _ _ _) ?_;refine(JDG hcl R3 (hk3.2.2 hI) hk3.1 (hrx 2 x Aj hx) (hrx 3 y Aj hy) (hrx 4 z Aj hz) hu3 h4).mono ?_;rintro e u' w' ⟨rfl,rfl,K4,R4,hst4,hk4⟩;have hst4':=hst3.trans hst4 (λm hm=>Bh hm hk3.1);have E4:EnvRep K4 (Jj [(2,x),(3,y),(4,z)]) a3.tmps:=by
   have key:∀(t:Nat) (q:AV),t∈[2,3,4]->t≠18->Jj e2 t=some q->t<a3.tmps.size/\Rep K4 q (a3.tmps.getD t Go.undef):=λt q ht h18 hq=>by
    refine⟨?_,?_⟩
    ·rw[hd3.2.1,haps,<- hsz];exact(E2 t q hq).1
    ·rw[hd3.2.2 t ht,hg t h18];exact Rep.ext hst4.ext _ _ (hrx t q h18 hq)
   intro t q hq;simp only[Jj]at hq;split at hq
   ·rename_i he;subst he;simp only[V]at hq;subst hq;exact key 2 x Aj Aj hx
   split at hq
   ·rename_i he;subst he;simp only[V]at hq;subst hq;exact key 3 y Aj Aj hy
   split at hq
   ·rename_i he;subst he;simp only[V]at hq;subst hq;exact key 4 z Aj Aj hz
   ·cases hq
  obtain⟨v,hv,hpost⟩:=JjH R hI R4 E4 hst4' (hk3.trans hk4) hn Jqg;exact⟨v,hv,hpost⟩
end Go.Proofs.YtmeakjgbjldkdaaGreat.Ai
