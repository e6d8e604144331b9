/- In a typed program every call finds a method, in its object's class and in all below: for every text the statement's function returns true. No condition. -/
import Derived.Test.YtmeakjgbjldkdaaGreatI8
import Derived.RowKit
import Derived.Test.YtmeakjgbjldkdaaGreatRows
import Derived.ProofKit
set_option maxRecDepth 100000
set_option maxHeartbeats 16000000
noncomputable section
namespace Go.Proofs.YtmeakjgbjldkdaaGreat.Ai
open Go
theorem Jer(sz:Nat)(rows:List (List AV)):VK (Kp sz rows)=Xv rows:=by
 cases rows with
 | nil=>rfl
 | cons r rs=>simp only[Kp,VK,Jrh,BW]
theorem JmE:∀(a b:List AV),QI (a++b)=(QI a && QI b)
 | [],b=>by simp[QI]
 | x::a,b=>by simp only[Aw,QI,JmE a b,DV]
theorem Jc7{α:Type}(f:α->List AV)(h:∀ x,QI (f x)=true):∀ l:List α,Xv (l.map f)=true
 | []=>rfl
 | x::l=>by simp only[Ap,Xv,h,Jc7 f h l,A0]
mutual
theorem Jr3:∀ t:Ty,QI (Jl t)=true
 | .mk kind name null K5 pred at_=>by simp only[Jl,QI,VK,Jer,JmF K5,Jgh pred,A0]
theorem JmF:∀ ts:List Ty,Xv (Jo ts)=true
 | []=>by simp only[Jo,Xv]
 | t::ts=>by simp only[Jo,Xv,Jr3 t,JmF ts,A0]
theorem J1t:∀ t:Xp,QI (Jb t)=true
 | .mk op name args ty at_=>by simp only[Jb,QI,VK,Jer,JmF ty,Jgh args,A0]
theorem Jgh:∀ ts:List Xp,Xv (Ja ts)=true
 | []=>by simp only[Ja,Xv]
 | t::ts=>by simp only[Ja,Xv,J1t t,Jgh ts,A0]
end
mutual
theorem J1u:∀ t:Sm,QI (Jp t)=true
 | .mk kind name ty exs body els at_=>by simp only[Jp,QI,VK,Jer,JmF ty,Jgh exs,Jgi body,Jgi els,A0]
theorem Jgi:∀ ts:List Sm,Xv (Jg ts)=true
 | []=>by simp only[Jg,Xv]
 | t::ts=>by simp only[Jg,Xv,J1u t,Jgi ts,A0]
end
theorem Jwz(p:Par):QI (Jf p)=true:=by simp only[Jf,QI,VK,JmE,Jr3,A0]
theorem JSC(p:Fld):QI (Jn p)=true:=by simp only[Jn,QI,VK,JmE,Jr3,A0]
theorem JSD(p:Mth):QI (Jm p)=true:=by simp only[Jm,QI,VK,JmE,Jr3,Jer,Jgi,Jc7 Jf Jwz,A0]
theorem JSE(p:Ctr):QI (Jw p)=true:=by simp only[Jw,QI,VK,Jer,Jgi,Jgh,Jc7 Jf Jwz,A0]
theorem J1v(x:Jk):QI (Qy x)=true:=rfl
theorem JSF(c:Cls):QI (Jc c)=true:=by simp only[Jc,QI,VK,Jer,Jgh,Jc7 Qy J1v,Jc7 Jn JSC,Jc7 Jw JSE,Jc7 Jm JSD,A0]
theorem JSG(p:Prg):QI (JU p)=true:=by simp only[JU,QI,Jer,Jgi,Jc7 Jc JSF,A0]
theorem JDH:∀ f p,PrN f=some p->ZL Tryz.prog f p:=λf p h=>EB
theorem JSH:∀ f fn,FR f=some fn->∃ g,Tryz.prog.funcs[f]? = some g/\JK Tryz.prog g fn=true:=by
 intro f fn h;unfold FR at h;split at h
 ·simp only[V]at h;subst h;exact⟨Tryz.f89,Tryz.func89,c89⟩
 ·simp only[V]at h;subst h;exact⟨Tryz.f90,Tryz.func90,c90⟩
 ·simp only[V]at h;subst h;exact⟨Tryz.f93,Tryz.func93,c93⟩
 ·simp only[V]at h;subst h;exact⟨Tryz.f95,Tryz.func95,c95⟩
 ·simp only[V]at h;subst h;exact⟨Tryz.f130,Tryz.func130,JTe⟩
 ·simp only[V]at h;subst h;exact⟨Tryz.f131,Tryz.func131,JTf⟩
 ·simp only[V]at h;subst h;exact⟨Tryz.f132,Tryz.func132,JTg⟩
 ·simp only[V]at h;subst h;exact⟨Tryz.f133,Tryz.func133,JTh⟩
 ·simp only[V]at h;subst h;exact⟨Tryz.f134,Tryz.func134,JTi⟩
 ·simp only[V]at h;subst h;exact⟨Tryz.f135,Tryz.func135,JTj⟩
 ·simp only[V]at h;subst h;exact⟨Tryz.f136,Tryz.func136,JTk⟩
 ·simp only[V]at h;subst h;exact⟨Tryz.f137,Tryz.func137,JTl⟩
 ·simp only[V]at h;subst h;exact⟨Tryz.f140,Tryz.func140,JTm⟩
 ·simp only[V]at h;subst h;exact⟨Tryz.f190,Tryz.func190,JTn⟩
 ·simp only[V]at h;subst h;exact⟨Tryz.f191,Tryz.func191,JTo⟩
 ·simp only[V]at h;subst h;exact⟨Tryz.f226,Tryz.func226,JTp⟩
 ·simp only[V]at h;subst h;exact⟨Tryz.f243,Tryz.func243,JTq⟩
 ·simp only[V]at h;subst h;exact⟨Tryz.f192,Tryz.func192,JTu⟩
 ·simp only[V]at h;subst h;exact⟨Tryz.f193,Tryz.func193,JTv⟩
 ·simp only[V]at h;subst h;exact⟨Tryz.f195,Tryz.func195,JTw⟩
 ·simp only[V]at h;subst h;exact⟨Tryz.f201,Tryz.func201,JTx⟩
 ·simp only[V]at h;subst h;exact⟨Tryz.f227,Tryz.func227,JTy⟩
 ·simp only[V]at h;subst h;exact⟨Tryz.f228,Tryz.func228,JTz⟩
 ·simp only[V]at h;subst h;exact⟨Tryz.f244,Tryz.func244,JTA⟩
 ·simp only[V]at h;subst h;exact⟨Tryz.f245,Tryz.func245,JTB⟩
 ·simp only[V]at h;subst h;exact⟨Tryz.f253,Tryz.func253,JTC⟩
 ·simp only[V]at h;subst h;exact⟨Tryz.f94,Tryz.func94,c94⟩
 ·simp only[V]at h;subst h;exact⟨Tryz.f141,Tryz.func141,JTQ⟩
 ·simp only[V]at h;subst h;exact⟨Tryz.f196,Tryz.func196,JTR⟩
 ·simp only[V]at h;subst h;exact⟨Tryz.f197,Tryz.func197,JTS⟩
 ·simp only[V]at h;subst h;exact⟨Tryz.f194,Tryz.func194,JTT⟩
 ·simp only[V]at h;subst h;exact⟨Tryz.f139,Tryz.func139,JTU⟩
 ·simp only[V]at h;subst h;exact⟨Tryz.f138,Tryz.func138,JTV⟩
 ·simp only[V]at h;subst h;exact⟨Tryz.f91,Tryz.func91,c91⟩
 ·simp only[V]at h;subst h;exact⟨Tryz.f92,Tryz.func92,c92⟩
 ·simp only[V]at h;subst h;exact⟨Tryz.f51,Tryz.func51,c51⟩
 ·simp only[V]at h;subst h;exact⟨Tryz.f41,Tryz.func41,c41⟩
 ·simp at h
theorem J1w:LibS PrN FR where
 hm:=JaJ
 f89:=⟨rfl,rfl⟩
 f130:=⟨rfl,rfl⟩
 f131:=⟨rfl,rfl⟩
 f132:=⟨rfl,rfl⟩
 f133:=⟨rfl,rfl⟩
 f190:=⟨rfl,rfl⟩
 f191:=⟨rfl,rfl⟩
 f226:=⟨rfl,rfl⟩
 f243:=⟨rfl,rfl⟩
 f90:=⟨rfl,rfl⟩
 f93:=⟨rfl,rfl⟩
 f95:=⟨rfl,rfl⟩
 f134:=⟨rfl,rfl⟩
 f135:=⟨rfl,rfl⟩
 f136:=⟨rfl,rfl⟩
 f140:=⟨rfl,rfl⟩
 f192:=⟨rfl,rfl⟩
 f193:=⟨rfl,rfl⟩
 f195:=⟨rfl,rfl⟩
 f201:=⟨rfl,rfl⟩
 f227:=⟨rfl,rfl⟩
 f228:=⟨rfl,rfl⟩
 f244:=⟨rfl,rfl⟩
 f245:=⟨rfl,rfl⟩
 f253:=⟨rfl,rfl⟩
 f94:=⟨rfl,rfl⟩
 f141:=⟨rfl,rfl⟩
 f196:=⟨rfl,rfl⟩
 f197:=⟨rfl,rfl⟩
 f137:=⟨rfl,rfl⟩
 f194:=⟨rfl,rfl⟩
 f139:=⟨rfl,rfl⟩
 f138:=⟨rfl,rfl⟩
 f91:=⟨rfl,rfl⟩
 f92:=⟨rfl,rfl⟩
 f51:=⟨rfl,rfl⟩
theorem rd3(x:Jk):∃(p:Prg) (ok:Bool),∃ n S',QF PrN FR n 41 [.str x] S0=some (.ret (.tup [.agg (JU p),.bool ok]),S'):=by obtain⟨⟨p,ok,rw⟩,-,hd⟩:=JiG J1w ⟨rfl,rfl⟩ [] [] x;refine⟨p,ok,?_⟩;obtain⟨n,r,S',h1,rfl⟩:=(hd λr _=>r=.ret (.tup [.agg (JU p),.bool ok])).2 rfl;exact⟨n,S',h1⟩
def JmG(x:Jk):Prg:=Classical.choose (rd3 x)
def Jqi(x:Jk):Bool:=Classical.choose (BB (rd3 x))
theorem Jlf(x:Jk):∃ n S',QF PrN FR n 41 [.str x] S0=some (.ret (.tup [.agg (JU (JmG x)),.bool (Jqi x)]),S'):=BB (BB (rd3 x))
def Jqj:Ky->List AV->St->Option (Res×St):=λ_ vs S=>match vs with
 | [.str x]=>some (.ret (.tup [.agg (JU (JmG x)),.bool (Jqi x)]),S)
 | _=>none
theorem Jth:ZL Tryz.prog 41 Jqj:=by
 intro cl hcl vs S r S' hx K w us R hI ha;unfold Jqj at hx;split at hx
 ·rename_i x;simp only[V,AP]at hx;obtain⟨rfl,rfl⟩:=hx;obtain⟨n,S',hn⟩:=Jlf x;exact Jrj (Jdb JDH (λf fn _ h=>JSH f fn h) n) hn (by simp only[VK,QI,JSG,A0]) rfl R ha
 ·simp at hx
theorem JSI{x:Jk}{p:Prg}{n:Nat}{T:St}(h:QF PrN FR n 41 [.str x] S0=some (.ret (.tup [.agg (JU p),.bool true]),T)):JU (JmG x)=JU p/\Jqi x=true:=by obtain⟨m,S',hm⟩:=Jlf x;have e1:=Q0 JaJ (B5 n m) _ _ _ _ h;have e2:=Q0 JaJ (B7 n m) _ _ _ _ hm;rw[e1]at e2;simp only[V,AP,Res.ret.injEq,AV.tup.injEq,DN,AV.agg.injEq,AV.bool.injEq,and_true]at e2;exact⟨e2.1.1.symm,e2.1.2.symm⟩
theorem J4M:∃ n T,QF PrN FR n 41 [.str txA] S0=some (.ret (.tup [.agg (JU pgA),.bool true]),T):=by obtain⟨n,hn⟩:=J1s;exact⟨n,_,hn⟩
def J1x:Kn:=⟨41,[.str txB],⟨[],[]⟩,.ret (.tup [.agg (JU pgB),.bool true]),⟨[],[6,1]⟩⟩
theorem J4N:∃ n T,QF PrN FR n 41 [.str txB] S0=some (.ret (.tup [.agg (JU pgB),.bool true]),T):=by have h:Jae J1x:=JaK (ks:=[]) (λk h=>EB) J1x (n:=300) Ae;obtain⟨n,hn⟩:=h;exact⟨n,_,hn⟩
def FZ:Nat->Option IFn:=λn=>match n with
 | 9=>some i9
 | 15=>some i15
 | 16=>some i16
 | 17=>some i17
 | 18=>some i18
 | 19=>some i19
 | 20=>some i20
 | 21=>some i21
 | 23=>some i23
 | 26=>some i26
 | 30=>some i30
 | 33=>some i33
 | 34=>some i34
 | 35=>some i35
 | 36=>some i36
 | 38=>some i38
 | 39=>some i39
 | 40=>some i40
 | 41=>some i41
 | 43=>some i43
 | 45=>some i45
 | 51=>some i51
 | 52=>some i52
 | 53=>some i53
 | 55=>some JNh
 | 56=>some i56
 | 57=>some i57
 | 64=>some Juf
 | 65=>some i65
 | 66=>some i66
 | 68=>some i68
 | 69=>some i69
 | 70=>some i70
 | 71=>some i71
 | 75=>some i75
 | 77=>some i77
 | 78=>some i78
 | 79=>some i79
 | 89=>some i89
 | 90=>some i90
 | 91=>some i91
 | 92=>some i92
 | 93=>some i93
 | 94=>some i94
 | 95=>some i95
 | 96=>some i96
 | 97=>some i97
 | 100=>some JIU
 | 101=>some JI5
 | 102=>some JJf
 | 103=>some JJn
 | 104=>some JJy
 | 105=>some JJI
 | 106=>some JJS
 | 111=>some JNr
 | 112=>some JNN
 | 115=>some JQo
 | 116=>some JOG
 | 117=>some JOa
 | 118=>some JOO
 | 119=>some JRv
 | 120=>some JRl
 | 121=>some JQy
 | 122=>some JOv
 | 127=>some JL6
 | 130=>some JwW
 | 131=>some JwX
 | 132=>some JwY
 | 133=>some JwZ
 | 134=>some Jw0
 | 135=>some Jw1
 | 136=>some Jw2
 | 137=>some Jw3
 | 138=>some Jzj
 | 139=>some Jy1
 | 140=>some Jw4
 | 141=>some JyI
 | 142=>some JMa
 | 143=>some JMk
 | 144=>some JMm
 | 145=>some JMq
 | 146=>some JMB
 | 149=>some JAm
 | 150=>some JKf
 | 151=>some JKp
 | 176=>some JOy
 | 177=>some JOD
 | 178=>some JOg
 | 179=>some JRb
 | 180=>some JPB
 | 181=>some JPg
 | 182=>some JOm
 | 183=>some JQ0
 | 184=>some JQJ
 | 185=>some JOV
 | 186=>some JPy
 | 187=>some JQR
 | 190=>some Jw5
 | 191=>some Jw6
 | 192=>some Jxc
 | 193=>some Jxd
 | 194=>some JyZ
 | 195=>some Jxe
 | 196=>some JyN
 | 197=>some JyT
 | 198=>some JMM
 | 199=>some JMW
 | 200=>some JM1
 | 201=>some Jxs
 | 204=>some JK5
 | 218=>some JOj
 | 219=>some JRL
 | 220=>some JPL
 | 221=>some JPU
 | 222=>some JP4
 | 223=>some JQe
 | 224=>some JOe
 | 225=>some JO5
 | 226=>some Jw7
 | 227=>some Jxt
 | 228=>some Jxu
 | 229=>some JM9
 | 240=>some JRU
 | 241=>some JPr
 | 242=>some JOJ
 | 243=>some Jw8
 | 244=>some JxL
 | 245=>some JxM
 | 253=>some Jyh
 | _=>none
theorem JwA:∀ f fn,FZ f=some fn->∃ g,Tryz.prog.funcs[f]? = some g/\JK Tryz.prog g fn=true:=by
 intro f fn h;unfold FZ at h;split at h
 ·simp only[V]at h;subst h;exact⟨Tryz.f9,Tryz.func9,c9⟩
 ·simp only[V]at h;subst h;exact⟨Tryz.f15,Tryz.func15,c15⟩
 ·simp only[V]at h;subst h;exact⟨Tryz.f16,Tryz.func16,c16⟩
 ·simp only[V]at h;subst h;exact⟨Tryz.f17,Tryz.func17,c17⟩
 ·simp only[V]at h;subst h;exact⟨Tryz.f18,Tryz.func18,c18⟩
 ·simp only[V]at h;subst h;exact⟨Tryz.f19,Tryz.func19,c19⟩
 ·simp only[V]at h;subst h;exact⟨Tryz.f20,Tryz.func20,c20⟩
 ·simp only[V]at h;subst h;exact⟨Tryz.f21,Tryz.func21,c21⟩
 ·simp only[V]at h;subst h;exact⟨Tryz.f23,Tryz.func23,c23⟩
 ·simp only[V]at h;subst h;exact⟨Tryz.f26,Tryz.func26,c26⟩
 ·simp only[V]at h;subst h;exact⟨Tryz.f30,Tryz.func30,c30⟩
 ·simp only[V]at h;subst h;exact⟨Tryz.f33,Tryz.func33,c33⟩
 ·simp only[V]at h;subst h;exact⟨Tryz.f34,Tryz.func34,c34⟩
 ·simp only[V]at h;subst h;exact⟨Tryz.f35,Tryz.func35,c35⟩
 ·simp only[V]at h;subst h;exact⟨Tryz.f36,Tryz.func36,c36⟩
 ·simp only[V]at h;subst h;exact⟨Tryz.f38,Tryz.func38,c38⟩
 ·simp only[V]at h;subst h;exact⟨Tryz.f39,Tryz.func39,c39⟩
 ·simp only[V]at h;subst h;exact⟨Tryz.f40,Tryz.func40,c40⟩
 ·simp only[V]at h;subst h;exact⟨Tryz.f41,Tryz.func41,c41⟩
 ·simp only[V]at h;subst h;exact⟨Tryz.f43,Tryz.func43,c43⟩
 ·simp only[V]at h;subst h;exact⟨Tryz.f45,Tryz.func45,c45⟩
 ·simp only[V]at h;subst h;exact⟨Tryz.f51,Tryz.func51,c51⟩
 ·simp only[V]at h;subst h;exact⟨Tryz.f52,Tryz.func52,c52⟩
 ·simp only[V]at h;subst h;exact⟨Tryz.f53,Tryz.func53,c53⟩
 ·simp only[V]at h;subst h;exact⟨Tryz.f55,Tryz.func55,J20⟩
 ·simp only[V]at h;subst h;exact⟨Tryz.f56,Tryz.func56,c56⟩
 ·simp only[V]at h;subst h;exact⟨Tryz.f57,Tryz.func57,c57⟩
 ·simp only[V]at h;subst h;exact⟨Tryz.f64,Tryz.func64,c64⟩
 ·simp only[V]at h;subst h;exact⟨Tryz.f65,Tryz.func65,c65⟩
 ·simp only[V]at h;subst h;exact⟨Tryz.f66,Tryz.func66,c66⟩
 ·simp only[V]at h;subst h;exact⟨Tryz.f68,Tryz.func68,c68⟩
 ·simp only[V]at h;subst h;exact⟨Tryz.f69,Tryz.func69,c69⟩
 ·simp only[V]at h;subst h;exact⟨Tryz.f70,Tryz.func70,c70⟩
 ·simp only[V]at h;subst h;exact⟨Tryz.f71,Tryz.func71,c71⟩
 ·simp only[V]at h;subst h;exact⟨Tryz.f75,Tryz.func75,c75⟩
 ·simp only[V]at h;subst h;exact⟨Tryz.f77,Tryz.func77,c77⟩
 ·simp only[V]at h;subst h;exact⟨Tryz.f78,Tryz.func78,c78⟩
 ·simp only[V]at h;subst h;exact⟨Tryz.f79,Tryz.func79,c79⟩
 ·simp only[V]at h;subst h;exact⟨Tryz.f89,Tryz.func89,c89⟩
 ·simp only[V]at h;subst h;exact⟨Tryz.f90,Tryz.func90,c90⟩
 ·simp only[V]at h;subst h;exact⟨Tryz.f91,Tryz.func91,c91⟩
 ·simp only[V]at h;subst h;exact⟨Tryz.f92,Tryz.func92,c92⟩
 ·simp only[V]at h;subst h;exact⟨Tryz.f93,Tryz.func93,c93⟩
 ·simp only[V]at h;subst h;exact⟨Tryz.f94,Tryz.func94,c94⟩
 ·simp only[V]at h;subst h;exact⟨Tryz.f95,Tryz.func95,c95⟩
 ·simp only[V]at h;subst h;exact⟨Tryz.f96,Tryz.func96,c96⟩
 ·simp only[V]at h;subst h;exact⟨Tryz.f97,Tryz.func97,c97⟩
 ·simp only[V]at h;subst h;exact⟨Tryz.f100,Tryz.func100,J2c⟩
 ·simp only[V]at h;subst h;exact⟨Tryz.f101,Tryz.func101,J2d⟩
 ·simp only[V]at h;subst h;exact⟨Tryz.f102,Tryz.func102,J2e⟩
 ·simp only[V]at h;subst h;exact⟨Tryz.f103,Tryz.func103,J2f⟩
 ·simp only[V]at h;subst h;exact⟨Tryz.f104,Tryz.func104,J2g⟩
 ·simp only[V]at h;subst h;exact⟨Tryz.f105,Tryz.func105,J2h⟩
 ·simp only[V]at h;subst h;exact⟨Tryz.f106,Tryz.func106,J2i⟩
 ·simp only[V]at h;subst h;exact⟨Tryz.f111,Tryz.func111,J25⟩
 ·simp only[V]at h;subst h;exact⟨Tryz.f112,Tryz.func112,J3B⟩
 ·simp only[V]at h;subst h;exact⟨Tryz.f115,Tryz.func115,J4k⟩
 ·simp only[V]at h;subst h;exact⟨Tryz.f116,Tryz.func116,J37⟩
 ·simp only[V]at h;subst h;exact⟨Tryz.f117,Tryz.func117,J3Y⟩
 ·simp only[V]at h;subst h;exact⟨Tryz.f118,Tryz.func118,J39⟩
 ·simp only[V]at h;subst h;exact⟨Tryz.f119,Tryz.func119,J4s⟩
 ·simp only[V]at h;subst h;exact⟨Tryz.f120,Tryz.func120,J4r⟩
 ·simp only[V]at h;subst h;exact⟨Tryz.f121,Tryz.func121,J4m⟩
 ·simp only[V]at h;subst h;exact⟨Tryz.f122,Tryz.func122,J34⟩
 ·simp only[V]at h;subst h;exact⟨Tryz.f127,Tryz.func127,J2P⟩
 ·simp only[V]at h;subst h;exact⟨Tryz.f130,Tryz.func130,JTe⟩
 ·simp only[V]at h;subst h;exact⟨Tryz.f131,Tryz.func131,JTf⟩
 ·simp only[V]at h;subst h;exact⟨Tryz.f132,Tryz.func132,JTg⟩
 ·simp only[V]at h;subst h;exact⟨Tryz.f133,Tryz.func133,JTh⟩
 ·simp only[V]at h;subst h;exact⟨Tryz.f134,Tryz.func134,JTi⟩
 ·simp only[V]at h;subst h;exact⟨Tryz.f135,Tryz.func135,JTj⟩
 ·simp only[V]at h;subst h;exact⟨Tryz.f136,Tryz.func136,JTk⟩
 ·simp only[V]at h;subst h;exact⟨Tryz.f137,Tryz.func137,JTl⟩
 ·simp only[V]at h;subst h;exact⟨Tryz.f138,Tryz.func138,JTV⟩
 ·simp only[V]at h;subst h;exact⟨Tryz.f139,Tryz.func139,JTU⟩
 ·simp only[V]at h;subst h;exact⟨Tryz.f140,Tryz.func140,JTm⟩
 ·simp only[V]at h;subst h;exact⟨Tryz.f141,Tryz.func141,JTQ⟩
 ·simp only[V]at h;subst h;exact⟨Tryz.f142,Tryz.func142,J2Q⟩
 ·simp only[V]at h;subst h;exact⟨Tryz.f143,Tryz.func143,J2R⟩
 ·simp only[V]at h;subst h;exact⟨Tryz.f144,Tryz.func144,J2S⟩
 ·simp only[V]at h;subst h;exact⟨Tryz.f145,Tryz.func145,J2T⟩
 ·simp only[V]at h;subst h;exact⟨Tryz.f146,Tryz.func146,J2U⟩
 ·simp only[V]at h;subst h;exact⟨Tryz.f149,Tryz.func149,J2j⟩
 ·simp only[V]at h;subst h;exact⟨Tryz.f150,Tryz.func150,J2l⟩
 ·simp only[V]at h;subst h;exact⟨Tryz.f151,Tryz.func151,J2m⟩
 ·simp only[V]at h;subst h;exact⟨Tryz.f176,Tryz.func176,J35⟩
 ·simp only[V]at h;subst h;exact⟨Tryz.f177,Tryz.func177,J36⟩
 ·simp only[V]at h;subst h;exact⟨Tryz.f178,Tryz.func178,J30⟩
 ·simp only[V]at h;subst h;exact⟨Tryz.f179,Tryz.func179,J4q⟩
 ·simp only[V]at h;subst h;exact⟨Tryz.f180,Tryz.func180,J4f⟩
 ·simp only[V]at h;subst h;exact⟨Tryz.f181,Tryz.func181,J4c⟩
 ·simp only[V]at h;subst h;exact⟨Tryz.f182,Tryz.func182,J32⟩
 ·simp only[V]at h;subst h;exact⟨Tryz.f183,Tryz.func183,J4p⟩
 ·simp only[V]at h;subst h;exact⟨Tryz.f184,Tryz.func184,J4n⟩
 ·simp only[V]at h;subst h;exact⟨Tryz.f185,Tryz.func185,J4a⟩
 ·simp only[V]at h;subst h;exact⟨Tryz.f186,Tryz.func186,J4e⟩
 ·simp only[V]at h;subst h;exact⟨Tryz.f187,Tryz.func187,J4o⟩
 ·simp only[V]at h;subst h;exact⟨Tryz.f190,Tryz.func190,JTn⟩
 ·simp only[V]at h;subst h;exact⟨Tryz.f191,Tryz.func191,JTo⟩
 ·simp only[V]at h;subst h;exact⟨Tryz.f192,Tryz.func192,JTu⟩
 ·simp only[V]at h;subst h;exact⟨Tryz.f193,Tryz.func193,JTv⟩
 ·simp only[V]at h;subst h;exact⟨Tryz.f194,Tryz.func194,JTT⟩
 ·simp only[V]at h;subst h;exact⟨Tryz.f195,Tryz.func195,JTw⟩
 ·simp only[V]at h;subst h;exact⟨Tryz.f196,Tryz.func196,JTR⟩
 ·simp only[V]at h;subst h;exact⟨Tryz.f197,Tryz.func197,JTS⟩
 ·simp only[V]at h;subst h;exact⟨Tryz.f198,Tryz.func198,J2V⟩
 ·simp only[V]at h;subst h;exact⟨Tryz.f199,Tryz.func199,J2W⟩
 ·simp only[V]at h;subst h;exact⟨Tryz.f200,Tryz.func200,J2X⟩
 ·simp only[V]at h;subst h;exact⟨Tryz.f201,Tryz.func201,JTx⟩
 ·simp only[V]at h;subst h;exact⟨Tryz.f204,Tryz.func204,J2F⟩
 ·simp only[V]at h;subst h;exact⟨Tryz.f218,Tryz.func218,J31⟩
 ·simp only[V]at h;subst h;exact⟨Tryz.f219,Tryz.func219,J4v⟩
 ·simp only[V]at h;subst h;exact⟨Tryz.f220,Tryz.func220,J4g⟩
 ·simp only[V]at h;subst h;exact⟨Tryz.f221,Tryz.func221,J4h⟩
 ·simp only[V]at h;subst h;exact⟨Tryz.f222,Tryz.func222,J4i⟩
 ·simp only[V]at h;subst h;exact⟨Tryz.f223,Tryz.func223,J4j⟩
 ·simp only[V]at h;subst h;exact⟨Tryz.f224,Tryz.func224,J3Z⟩
 ·simp only[V]at h;subst h;exact⟨Tryz.f225,Tryz.func225,J4b⟩
 ·simp only[V]at h;subst h;exact⟨Tryz.f226,Tryz.func226,JTp⟩
 ·simp only[V]at h;subst h;exact⟨Tryz.f227,Tryz.func227,JTy⟩
 ·simp only[V]at h;subst h;exact⟨Tryz.f228,Tryz.func228,JTz⟩
 ·simp only[V]at h;subst h;exact⟨Tryz.f229,Tryz.func229,J2Y⟩
 ·simp only[V]at h;subst h;exact⟨Tryz.f240,Tryz.func240,J4w⟩
 ·simp only[V]at h;subst h;exact⟨Tryz.f241,Tryz.func241,J4d⟩
 ·simp only[V]at h;subst h;exact⟨Tryz.f242,Tryz.func242,J38⟩
 ·simp only[V]at h;subst h;exact⟨Tryz.f243,Tryz.func243,JTq⟩
 ·simp only[V]at h;subst h;exact⟨Tryz.f244,Tryz.func244,JTA⟩
 ·simp only[V]at h;subst h;exact⟨Tryz.f245,Tryz.func245,JTB⟩
 ·simp only[V]at h;subst h;exact⟨Tryz.f253,Tryz.func253,JTC⟩
 ·simp at h
def PrR:Jz:=λn=>match n with
 | 37=>some Jg2
 | 41=>some Jqj
 | 42=>some (Jj2 Jk5 Jk6 Jqa Jqb Jj3 Jce)
 | 54=>some Jg1
 | _=>none
theorem Jha:JeN Jg1:=λ_ _ _ _ _ _ h=>h
theorem JjI:Yy PrR:=by
 intro f p hp;unfold PrR at hp;split at hp
 ·simp only[V]at hp;subst hp;exact Jjl
 ·simp only[V]at hp;subst hp;exact λ_ _ _ _ _ _ h=>h
 ·simp only[V]at hp;subst hp;exact Jk4 _ _ _ _ _ _
 ·simp only[V]at hp;subst hp;exact Jha
 ·simp at hp
theorem JDI:∀ f p,PrR f=some p->ZL Tryz.prog f p:=by
 intro f p hp;unfold PrR at hp;split at hp
 ·simp only[V]at hp;subst hp;exact Joa
 ·simp only[V]at hp;subst hp;exact Jth
 ·simp only[V]at hp;subst hp;exact Jle
 ·simp only[V]at hp;subst hp;exact Jn8
 ·simp at hp
theorem JmH{pr:Jz}{F:Nat->Option IFn}(hp:Yy pr){n f:Nat}{vs:List AV}{S S':St}{r:Res}(h:QF pr F n f vs S=some (r,S')):Det pr F f vs S r S':=by
 have h2:Wp pr F f vs S λa b=>a=r/\b=S':=⟨n,r,S',h,rfl,rfl⟩
 obtain⟨r',S2,hd,rfl,rfl⟩:=h2.det hp;exact hd
theorem Jr4:∀ l:List Jk,JcY (l.map Qy)=some l
 | []=>rfl
 | s::l=>by show(match JcY (l.map Qy)with |some l=>some (s::l) |none=>none)=_;rw[Jr4 l]
theorem Jr5(k:Nat)(hk:0<k):∀ l:List Jk,Jeg k l=(l.map λx=>x.length+k).sum/\l.length<=(l.map λx=>x.length+k).sum
 | []=>⟨rfl,Ao _⟩
 | s::l=>by obtain⟨h1,h2⟩:=Jr5 k hk l;simp only[Jeg,Ap,Du,Ad];omega
theorem Jlg{pr:Jz}{F:Nat->Option IFn}(hp:Yy pr)(hj:pr 54=some Jg1)(l:List Jk)(sep:Jk)(v:AV)(H:List Blk)(rw:List Nat)(hv:IsL 1 v (l.map Qy))(hl:(l.map λx=>x.length+sep.length).sum<=2147483648)(hs:0<sep.length) :
  Det pr F 54 [v,.str sep] ⟨H,rw⟩ (.ret (.str (Xb sep l))) ⟨H,rw⟩:=by
 obtain⟨z,tg,rfl,-,-⟩:=hv.ex;obtain⟨h1,h2⟩:=Jr5 sep.length hs l;refine JmH hp (n:=1) ?_;simp only[QF,hj];show Jg1 (QF pr F 0) [.list z tg (l.map Qy),.str sep] ⟨H,rw⟩=_;simp only[Jg1,Jr4];rw[if_pos ⟨O,O⟩]
theorem J1y:LibZ PrR FZ where
 hm:=JjI
 join:=λl sep v H rw hv hl hs=>Jlg JjI rfl l sep v H rw hv hl hs
 p37:=rfl
 p42:=rfl
 f89:=⟨rfl,rfl⟩
 f130:=⟨rfl,rfl⟩
 f131:=⟨rfl,rfl⟩
 f132:=⟨rfl,rfl⟩
 f133:=⟨rfl,rfl⟩
 f190:=⟨rfl,rfl⟩
 f191:=⟨rfl,rfl⟩
 f226:=⟨rfl,rfl⟩
 f243:=⟨rfl,rfl⟩
 f90:=⟨rfl,rfl⟩
 f93:=⟨rfl,rfl⟩
 f95:=⟨rfl,rfl⟩
 f134:=⟨rfl,rfl⟩
 f135:=⟨rfl,rfl⟩
 f136:=⟨rfl,rfl⟩
 f140:=⟨rfl,rfl⟩
 f192:=⟨rfl,rfl⟩
 f193:=⟨rfl,rfl⟩
 f195:=⟨rfl,rfl⟩
 f201:=⟨rfl,rfl⟩
 f227:=⟨rfl,rfl⟩
 f228:=⟨rfl,rfl⟩
 f244:=⟨rfl,rfl⟩
 f245:=⟨rfl,rfl⟩
 f253:=⟨rfl,rfl⟩
 f94:=⟨rfl,rfl⟩
 f141:=⟨rfl,rfl⟩
 f196:=⟨rfl,rfl⟩
 f197:=⟨rfl,rfl⟩
 f137:=⟨rfl,rfl⟩
 f194:=⟨rfl,rfl⟩
 f139:=⟨rfl,rfl⟩
 f138:=⟨rfl,rfl⟩
 f91:=⟨rfl,rfl⟩
 f92:=⟨rfl,rfl⟩
 f51:=⟨rfl,rfl⟩
 f19:=⟨rfl,rfl⟩
 f15:=⟨rfl,rfl⟩
 f17:=⟨rfl,rfl⟩
 f20:=⟨rfl,rfl⟩
 f26:=⟨rfl,rfl⟩
 f30:=⟨rfl,rfl⟩
 f56:=⟨rfl,rfl⟩
 f64:=⟨rfl,rfl⟩
 f65:=⟨rfl,rfl⟩
 f66:=⟨rfl,rfl⟩
 f100:=⟨rfl,rfl⟩
 f101:=⟨rfl,rfl⟩
 f102:=⟨rfl,rfl⟩
 f103:=⟨rfl,rfl⟩
 f104:=⟨rfl,rfl⟩
 f105:=⟨rfl,rfl⟩
 f106:=⟨rfl,rfl⟩
 f149:=⟨rfl,rfl⟩
 f150:=⟨rfl,rfl⟩
 f151:=⟨rfl,rfl⟩
 f16:=⟨rfl,rfl⟩
 f18:=⟨rfl,rfl⟩
 f21:=⟨rfl,rfl⟩
 f53:=⟨rfl,rfl⟩
 f57:=⟨rfl,rfl⟩
 f204:=⟨rfl,rfl⟩
 f52:=⟨rfl,rfl⟩
 f96:=⟨rfl,rfl⟩
 f97:=⟨rfl,rfl⟩
 f127:=⟨rfl,rfl⟩
 f142:=⟨rfl,rfl⟩
 f143:=⟨rfl,rfl⟩
 f144:=⟨rfl,rfl⟩
 f145:=⟨rfl,rfl⟩
 f146:=⟨rfl,rfl⟩
 f198:=⟨rfl,rfl⟩
 f199:=⟨rfl,rfl⟩
 f200:=⟨rfl,rfl⟩
 f229:=⟨rfl,rfl⟩
 f55:=⟨rfl,rfl⟩
 f23:=⟨rfl,rfl⟩
 f33:=⟨rfl,rfl⟩
 f34:=⟨rfl,rfl⟩
 f35:=⟨rfl,rfl⟩
 f36:=⟨rfl,rfl⟩
 f68:=⟨rfl,rfl⟩
 f69:=⟨rfl,rfl⟩
 f111:=⟨rfl,rfl⟩
 f38:=⟨rfl,rfl⟩
 f39:=⟨rfl,rfl⟩
 f70:=⟨rfl,rfl⟩
 f71:=⟨rfl,rfl⟩
 f75:=⟨rfl,rfl⟩
 f112:=⟨rfl,rfl⟩
 f45:=⟨rfl,rfl⟩
 f77:=⟨rfl,rfl⟩
 f78:=⟨rfl,rfl⟩
 f115:=⟨rfl,rfl⟩
 f116:=⟨rfl,rfl⟩
 f117:=⟨rfl,rfl⟩
 f118:=⟨rfl,rfl⟩
 f119:=⟨rfl,rfl⟩
 f120:=⟨rfl,rfl⟩
 f121:=⟨rfl,rfl⟩
 f122:=⟨rfl,rfl⟩
 f176:=⟨rfl,rfl⟩
 f177:=⟨rfl,rfl⟩
 f178:=⟨rfl,rfl⟩
 f179:=⟨rfl,rfl⟩
 f180:=⟨rfl,rfl⟩
 f181:=⟨rfl,rfl⟩
 f182:=⟨rfl,rfl⟩
 f183:=⟨rfl,rfl⟩
 f184:=⟨rfl,rfl⟩
 f185:=⟨rfl,rfl⟩
 f186:=⟨rfl,rfl⟩
 f187:=⟨rfl,rfl⟩
 f218:=⟨rfl,rfl⟩
 f220:=⟨rfl,rfl⟩
 f221:=⟨rfl,rfl⟩
 f222:=⟨rfl,rfl⟩
 f223:=⟨rfl,rfl⟩
 f224:=⟨rfl,rfl⟩
 f225:=⟨rfl,rfl⟩
 f241:=⟨rfl,rfl⟩
 f242:=⟨rfl,rfl⟩
 f219:=⟨rfl,rfl⟩
 f240:=⟨rfl,rfl⟩
theorem JwB{x:Jk}{p:Prg}(h:∃ n T,QF PrN FR n 41 [.str x] S0=some (.ret (.tup [.agg (JU p),.bool true]),T)):JoJ PrR FZ x p:=by obtain⟨n,T,h⟩:=h;obtain⟨h1,h2⟩:=JSI h;intro H rw;refine⟨rw,Rx.rfl,?_⟩;rw[<- h1,<- h2];exact JmH JjI (n:=1) rfl
theorem JSK:∃ n S',QF PrR FZ n 40 [] S0=some (.ret (.bool true),S'):=by obtain⟨n,r,S',h1,rfl⟩:=J4I J1y ⟨rfl,rfl⟩ (JwB J4M) (JwB J4N) [] [];exact⟨n,S',h1⟩
def JmI:Ky->List AV->St->Option (Res×St):=λ_ vs S=>match vs with
 | []=>some (.ret (.bool true),S)
 | _=>none
theorem Jqk:ZL Tryz.prog 40 JmI:=by
 intro cl hcl vs S r S' hx K w us R hI ha;unfold JmI at hx;split at hx
 ·simp only[V,AP]at hx;obtain⟨rfl,rfl⟩:=hx;obtain⟨n,S2,hn⟩:=JSK;exact Jrj (Jdb JDI (λf fn _ h=>JwA f fn h) n) (f:=40) (vs:=[]) (v:=.bool true) (S':=S2) hn rfl rfl R ha
 ·simp at hx
def PrZ:Jz:=λn=>match n with
 | 37=>some Jg2
 | 40=>some JmI
 | 42=>some (Jj2 Jk5 Jk6 Jqa Jqb Jj3 Jce)
 | 54=>some Jg1
 | _=>none
theorem Jft:Yy PrZ:=by
 intro f p hp;unfold PrZ at hp;split at hp
 ·simp only[V]at hp;subst hp;exact Jjl
 ·simp only[V]at hp;subst hp;exact λ_ _ _ _ _ _ h=>h
 ·simp only[V]at hp;subst hp;exact Jk4 _ _ _ _ _ _
 ·simp only[V]at hp;subst hp;exact Jha
 ·simp at hp
theorem JDJ:∀ f p,PrZ f=some p->ZL Tryz.prog f p:=by
 intro f p hp;unfold PrZ at hp;split at hp
 ·simp only[V]at hp;subst hp;exact Joa
 ·simp only[V]at hp;subst hp;exact Jqk
 ·simp only[V]at hp;subst hp;exact Jle
 ·simp only[V]at hp;subst hp;exact Jn8
 ·simp at hp
theorem J1z:LibZ9 PrZ FZ where
 hm:=Jft
 join:=λl sep v H rw hv hl hs=>Jlg Jft rfl l sep v H rw hv hl hs
 p37:=rfl
 p42:=rfl
 f89:=⟨rfl,rfl⟩
 f130:=⟨rfl,rfl⟩
 f131:=⟨rfl,rfl⟩
 f132:=⟨rfl,rfl⟩
 f133:=⟨rfl,rfl⟩
 f190:=⟨rfl,rfl⟩
 f191:=⟨rfl,rfl⟩
 f226:=⟨rfl,rfl⟩
 f243:=⟨rfl,rfl⟩
 f90:=⟨rfl,rfl⟩
 f93:=⟨rfl,rfl⟩
 f95:=⟨rfl,rfl⟩
 f134:=⟨rfl,rfl⟩
 f135:=⟨rfl,rfl⟩
 f136:=⟨rfl,rfl⟩
 f140:=⟨rfl,rfl⟩
 f192:=⟨rfl,rfl⟩
 f193:=⟨rfl,rfl⟩
 f195:=⟨rfl,rfl⟩
 f201:=⟨rfl,rfl⟩
 f227:=⟨rfl,rfl⟩
 f228:=⟨rfl,rfl⟩
 f244:=⟨rfl,rfl⟩
 f245:=⟨rfl,rfl⟩
 f253:=⟨rfl,rfl⟩
 f94:=⟨rfl,rfl⟩
 f141:=⟨rfl,rfl⟩
 f196:=⟨rfl,rfl⟩
 f197:=⟨rfl,rfl⟩
 f137:=⟨rfl,rfl⟩
 f194:=⟨rfl,rfl⟩
 f139:=⟨rfl,rfl⟩
 f138:=⟨rfl,rfl⟩
 f91:=⟨rfl,rfl⟩
 f92:=⟨rfl,rfl⟩
 f51:=⟨rfl,rfl⟩
 f19:=⟨rfl,rfl⟩
 f15:=⟨rfl,rfl⟩
 f17:=⟨rfl,rfl⟩
 f20:=⟨rfl,rfl⟩
 f26:=⟨rfl,rfl⟩
 f30:=⟨rfl,rfl⟩
 f56:=⟨rfl,rfl⟩
 f64:=⟨rfl,rfl⟩
 f65:=⟨rfl,rfl⟩
 f66:=⟨rfl,rfl⟩
 f100:=⟨rfl,rfl⟩
 f101:=⟨rfl,rfl⟩
 f102:=⟨rfl,rfl⟩
 f103:=⟨rfl,rfl⟩
 f104:=⟨rfl,rfl⟩
 f105:=⟨rfl,rfl⟩
 f106:=⟨rfl,rfl⟩
 f149:=⟨rfl,rfl⟩
 f150:=⟨rfl,rfl⟩
 f151:=⟨rfl,rfl⟩
 f16:=⟨rfl,rfl⟩
 f18:=⟨rfl,rfl⟩
 f21:=⟨rfl,rfl⟩
 f53:=⟨rfl,rfl⟩
 f57:=⟨rfl,rfl⟩
 f204:=⟨rfl,rfl⟩
 f52:=⟨rfl,rfl⟩
 f96:=⟨rfl,rfl⟩
 f97:=⟨rfl,rfl⟩
 f127:=⟨rfl,rfl⟩
 f142:=⟨rfl,rfl⟩
 f143:=⟨rfl,rfl⟩
 f144:=⟨rfl,rfl⟩
 f145:=⟨rfl,rfl⟩
 f146:=⟨rfl,rfl⟩
 f198:=⟨rfl,rfl⟩
 f199:=⟨rfl,rfl⟩
 f200:=⟨rfl,rfl⟩
 f229:=⟨rfl,rfl⟩
 f55:=⟨rfl,rfl⟩
 f23:=⟨rfl,rfl⟩
 f33:=⟨rfl,rfl⟩
 f34:=⟨rfl,rfl⟩
 f35:=⟨rfl,rfl⟩
 f36:=⟨rfl,rfl⟩
 f68:=⟨rfl,rfl⟩
 f69:=⟨rfl,rfl⟩
 f111:=⟨rfl,rfl⟩
 f38:=⟨rfl,rfl⟩
 f39:=⟨rfl,rfl⟩
 f70:=⟨rfl,rfl⟩
 f71:=⟨rfl,rfl⟩
 f75:=⟨rfl,rfl⟩
 f112:=⟨rfl,rfl⟩
 f45:=⟨rfl,rfl⟩
 f77:=⟨rfl,rfl⟩
 f78:=⟨rfl,rfl⟩
 f115:=⟨rfl,rfl⟩
 f116:=⟨rfl,rfl⟩
 f117:=⟨rfl,rfl⟩
 f118:=⟨rfl,rfl⟩
 f119:=⟨rfl,rfl⟩
 f120:=⟨rfl,rfl⟩
 f121:=⟨rfl,rfl⟩
 f122:=⟨rfl,rfl⟩
 f176:=⟨rfl,rfl⟩
 f177:=⟨rfl,rfl⟩
 f178:=⟨rfl,rfl⟩
 f179:=⟨rfl,rfl⟩
 f180:=⟨rfl,rfl⟩
 f181:=⟨rfl,rfl⟩
 f182:=⟨rfl,rfl⟩
 f183:=⟨rfl,rfl⟩
 f184:=⟨rfl,rfl⟩
 f185:=⟨rfl,rfl⟩
 f186:=⟨rfl,rfl⟩
 f187:=⟨rfl,rfl⟩
 f218:=⟨rfl,rfl⟩
 f220:=⟨rfl,rfl⟩
 f221:=⟨rfl,rfl⟩
 f222:=⟨rfl,rfl⟩
 f223:=⟨rfl,rfl⟩
 f224:=⟨rfl,rfl⟩
 f225:=⟨rfl,rfl⟩
 f241:=⟨rfl,rfl⟩
 f242:=⟨rfl,rfl⟩
 f219:=⟨rfl,rfl⟩
 f240:=⟨rfl,rfl⟩
 f9:=⟨rfl,rfl⟩
 f41:=⟨rfl,rfl⟩
 f43:=⟨rfl,rfl⟩
 f79:=⟨rfl,rfl⟩
theorem JDK{F:Nat->Option IFn}(hF:∀ f fn,F f=some fn->∃ g,Tryz.prog.funcs[f]? = some g/\JK Tryz.prog g fn=true){f:Nat}{vs:List AV}{us:List Value}(hf:PrZ f=none)(h:Wp PrZ F f vs S0 JkQ)(ha:RepT K0 vs us)(w:World) :
  Calls Tryz.prog f us.toArray w λe w'=>e=.returned (.bool true)/\RowKit.Below w.heap.size w w':=by
 obtain⟨n,r,S',h1,rfl⟩:=h;exact Jty JDJ (λf fn _ h=>hF f fn h) hf (Jiv Jft n _ _ _ _ h1) ha w
theorem tc_row(x:Jk){us:List Value}(ha:RepT K0 [.str x] us)(w:World):Calls Tryz.prog 9 us.toArray w λe w'=>e=.returned (.bool true)/\RowKit.Below w.heap.size w w':=
 JDK JwA rfl (J09 J1z (λ_=>JmH Jft (n:=1) rfl) x [] []) ha w
end Go.Proofs.YtmeakjgbjldkdaaGreat.Ai
namespace Go.Proofs.YtmeakjgbjldkdaaGreat
open Go.ChangeShapes Go.WideShapes Go.ChangeAt Go.RowKit
open Go.ChangeMaps (open_string shut_string)
theorem Tryz.own:ownKnob Tryz.prog.godebug=none:=Ai.Ae
theorem JDL(s:ByteArray)(w:World):Calls Tryz.prog 9 #[.string s] w λe w'=>e=.returned (.bool true)/\Below w.heap.size w w':=by obtain⟨⟨l⟩⟩:=s;exact Ai.tc_row l (us:=[.string ⟨⟨l⟩⟩]) (by simp only[Ai.RepT,Ai.Rep];exact⟨_,_,rfl,rfl,rfl⟩) w
theorem Jti(os:Os)(started:os.Started)(H:Type)(enc:TypeId×Value->H) :
  ReturnsInHanded {} Tryz.checked os 9 .any (Rows.typingCallsSpec.pre6 enc Tryz.prog Tryz.f9 Rows.typingCallsRow.domain false) (Rows.typingCallsSpec.post enc Tryz.prog Tryz.f9 false true false false):=by
 refine returnsInHanded_of_change (C:=Tryz.checked) Tryz.own started Ai.Ae Tryz.func9
  (ChangeSpec.witness6 (enc:=enc) (C:=Tryz.checked) false ⟨#[],#[.string ⟨#[]⟩],[]⟩ 8 Ai.Ae Ai.Ae Ai.Ae Ai.Ae) ?_
 intro W base args ds gs before hval0 hW hcnd _;have hval:∀(j:Nat) t v,Tryz.f9.params[j]? = some t->args[j]? = some v->Value.okWide Tryz.prog W .any base t v:=hval0;have hW':=hW;obtain⟨p,q,hA0,hV,rfl,hfz,hnd⟩:=hW;have hA:DataW.TrodAll enc Tryz.prog W 0 (λ_=>true) true Tryz.f9.params.toList args.toList ds p:=hA0;rw[Tryz.params9]at hA hval;obtain⟨v0,d0,rfl,rfl,h0⟩:=trodAll_one hA;obtain⟨rfl,rfl⟩:=trodVars_none hV;obtain⟨s,rfl,rfl,rfl,hs⟩:=open_string Tryz.underlying9 (hval 0 9 v0 rfl rfl) h0;clear hA0 hval0;simp only[Ar]at hW';refine(JDL s W).mono λe W' ⟨he,hb⟩=>?_;subst he;exact⟨_,rfl,_,_,_,[],[],[],hW',trodAll_mk1 (shut_bool Tryz.underlying4 true),trodAll_mk1 (shut_string Tryz.underlying9 hs),rfl,hb.frame _,λh=>Ai.EB⟩
theorem typingCalls_holds:Rows.TypingCallsSaid:=
 OpenClaim.holds_of_wide 9 Tryz.f9 rfl rfl rfl rfl rfl rfl rfl ⟨rfl,rfl,rfl,rfl,rfl⟩ rfl rfl rfl rfl rfl Ai.Ae Tryz.func9 Ai.Ae
  (of_decide_eq_true Ai.Ae) (by unfold Func.isWrapper;first |(rw[if_pos (by decide +kernel)];kernel_rfl) |(rw[if_neg (by decide +kernel)];exact⟨rfl,rfl⟩))
  (λos started H enc _=>Jti os started H enc)
#print axioms typingCalls_holds
end Go.Proofs.YtmeakjgbjldkdaaGreat
