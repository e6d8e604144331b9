/- A name that is not there is refused just there: the statement's function returns true. No condition. -/
import Derived.Test.YtmeakjgbjldkdaaGreatB9
import Derived.Test.YtmeakjgbjldkdaaGreatRows
import Derived.ProofKit
set_option maxRecDepth 100000
set_option maxHeartbeats 16000000
noncomputable section
namespace Go.Proofs.YtmeakjgbjldkdaaGreat.Ai
open Go
theorem Jer(sz:Nat)(rows:List (List AV)):VK (Kp sz rows)=Xv rows:=by
 cases rows with
 | nil=>rfl
 | cons r rs=>simp only[Kp,VK,Jrh,BW]
theorem JmE:∀(a b:List AV),QI (a++b)=(QI a && QI b)
 | [],b=>by simp[QI]
 | x::a,b=>by simp only[Aw,QI,JmE a b,DV]
theorem Jc7{α:Type}(f:α->List AV)(h:∀ x,QI (f x)=true):∀ l:List α,Xv (l.map f)=true
 | []=>rfl
 | x::l=>by simp only[Ap,Xv,h,Jc7 f h l,A0]
mutual
theorem Jr3:∀ t:Ty,QI (Jl t)=true
 | .mk kind name null K5 pred at_=>by simp only[Jl,QI,VK,Jer,JmF K5,Jgh pred,A0]
theorem JmF:∀ ts:List Ty,Xv (Jo ts)=true
 | []=>by simp only[Jo,Xv]
 | t::ts=>by simp only[Jo,Xv,Jr3 t,JmF ts,A0]
theorem J1t:∀ t:Xp,QI (Jb t)=true
 | .mk op name args ty at_=>by simp only[Jb,QI,VK,Jer,JmF ty,Jgh args,A0]
theorem Jgh:∀ ts:List Xp,Xv (Ja ts)=true
 | []=>by simp only[Ja,Xv]
 | t::ts=>by simp only[Ja,Xv,J1t t,Jgh ts,A0]
end
mutual
theorem J1u:∀ t:Sm,QI (Jp t)=true
 | .mk kind name ty exs body els at_=>by simp only[Jp,QI,VK,Jer,JmF ty,Jgh exs,Jgi body,Jgi els,A0]
theorem Jgi:∀ ts:List Sm,Xv (Jg ts)=true
 | []=>by simp only[Jg,Xv]
 | t::ts=>by simp only[Jg,Xv,J1u t,Jgi ts,A0]
end
theorem Jwz(p:Par):QI (Jf p)=true:=by simp only[Jf,QI,VK,JmE,Jr3,A0]
theorem JSC(p:Fld):QI (Jn p)=true:=by simp only[Jn,QI,VK,JmE,Jr3,A0]
theorem JSD(p:Mth):QI (Jm p)=true:=by simp only[Jm,QI,VK,JmE,Jr3,Jer,Jgi,Jc7 Jf Jwz,A0]
theorem JSE(p:Ctr):QI (Jw p)=true:=by simp only[Jw,QI,VK,Jer,Jgi,Jgh,Jc7 Jf Jwz,A0]
theorem J1v(x:Jk):QI (Qy x)=true:=rfl
theorem JSF(c:Cls):QI (Jc c)=true:=by simp only[Jc,QI,VK,Jer,Jgh,Jc7 Qy J1v,Jc7 Jn JSC,Jc7 Jw JSE,Jc7 Jm JSD,A0]
theorem JSG(p:Prg):QI (JU p)=true:=by simp only[JU,QI,Jer,Jgi,Jc7 Jc JSF,A0]
theorem kx{f:Nat}{i fn:IFn}{g:Func}(h:some i=some fn)(a:Tryz.prog.funcs[f]? = some g)(b:JK Tryz.prog g i=true):∃ g,Tryz.prog.funcs[f]? = some g/\JK Tryz.prog g fn=true:=by cases h;exact⟨g,a,b⟩
theorem rr{pr:Jz}{F:Nat->Option IFn}{n:Nat}{i:IFn}(h1:pr n=none:=by rfl)(h2:F n=some i:=by rfl):QG pr F n i:=⟨h1,h2⟩
theorem JDH:∀ f p,PrN f=some p->ZL Tryz.prog f p:=λf p h=>by cases h
theorem JSH:∀ f fn,FR f=some fn->∃ g,Tryz.prog.funcs[f]? = some g/\JK Tryz.prog g fn=true:=by
 intro f fn h;unfold FR at h;split at h
 ·exact kx h Tryz.func89 c89
 ·exact kx h Tryz.func90 c90
 ·exact kx h Tryz.func93 c93
 ·exact kx h Tryz.func95 c95
 ·exact kx h Tryz.func130 JTe
 ·exact kx h Tryz.func131 JTf
 ·exact kx h Tryz.func132 JTg
 ·exact kx h Tryz.func133 JTh
 ·exact kx h Tryz.func134 JTi
 ·exact kx h Tryz.func135 JTj
 ·exact kx h Tryz.func136 JTk
 ·exact kx h Tryz.func137 JTl
 ·exact kx h Tryz.func140 JTm
 ·exact kx h Tryz.func190 JTn
 ·exact kx h Tryz.func191 JTo
 ·exact kx h Tryz.func226 JTp
 ·exact kx h Tryz.func243 JTq
 ·exact kx h Tryz.func192 JTu
 ·exact kx h Tryz.func193 JTv
 ·exact kx h Tryz.func195 JTw
 ·exact kx h Tryz.func201 JTx
 ·exact kx h Tryz.func227 JTy
 ·exact kx h Tryz.func228 JTz
 ·exact kx h Tryz.func244 JTA
 ·exact kx h Tryz.func245 JTB
 ·exact kx h Tryz.func253 JTC
 ·exact kx h Tryz.func94 c94
 ·exact kx h Tryz.func141 JTQ
 ·exact kx h Tryz.func196 JTR
 ·exact kx h Tryz.func197 JTS
 ·exact kx h Tryz.func194 JTT
 ·exact kx h Tryz.func139 JTU
 ·exact kx h Tryz.func138 JTV
 ·exact kx h Tryz.func91 c91
 ·exact kx h Tryz.func92 c92
 ·exact kx h Tryz.func51 c51
 ·exact kx h Tryz.func41 c41
 ·simp at h
theorem J1w:LibS PrN FR where
 hm:=JaJ
 f89:=rr
 f130:=rr
 f131:=rr
 f132:=rr
 f133:=rr
 f190:=rr
 f191:=rr
 f226:=rr
 f243:=rr
 f90:=rr
 f93:=rr
 f95:=rr
 f134:=rr
 f135:=rr
 f136:=rr
 f140:=rr
 f192:=rr
 f193:=rr
 f195:=rr
 f201:=rr
 f227:=rr
 f228:=rr
 f244:=rr
 f245:=rr
 f253:=rr
 f94:=rr
 f141:=rr
 f196:=rr
 f197:=rr
 f137:=rr
 f194:=rr
 f139:=rr
 f138:=rr
 f91:=rr
 f92:=rr
 f51:=rr
theorem rd3(x:Jk):∃(p:Prg) (ok:Bool),∃ n S',QF PrN FR n 41 [.str x] S0=some (.ret (.tup [.agg (JU p),.bool ok]),S'):=by obtain⟨⟨p,ok,rw⟩,-,hd⟩:=JiG J1w ⟨rfl,rfl⟩ [] [] x;refine⟨p,ok,?_⟩;obtain⟨n,r,S',h1,rfl⟩:=(hd λr _=>r=.ret (.tup [.agg (JU p),.bool ok])).2 rfl;exact⟨n,S',h1⟩
def JmG(x:Jk):Prg:=Classical.choose (rd3 x)
def Jqi(x:Jk):Bool:=Classical.choose (BB (rd3 x))
theorem Jlf(x:Jk):∃ n S',QF PrN FR n 41 [.str x] S0=some (.ret (.tup [.agg (JU (JmG x)),.bool (Jqi x)]),S'):=BB (BB (rd3 x))
def Jqj:Ky->List AV->St->Option (Res×St):=λ_ vs S=>match vs with
 | [.str x]=>some (.ret (.tup [.agg (JU (JmG x)),.bool (Jqi x)]),S)
 | _=>none
theorem Jth:ZL Tryz.prog 41 Jqj:=by
 intro cl hcl vs S r S' hx K w us R hI ha;unfold Jqj at hx;split at hx
 ·rename_i x;simp only[V,AP]at hx;obtain⟨rfl,rfl⟩:=hx;obtain⟨n,S',hn⟩:=Jlf x;exact Jrj (Jdb JDH (λf fn _ h=>JSH f fn h) n) hn (by simp only[VK,QI,JSG,A0]) rfl R ha
 ·simp at hx
theorem JSI{x:Jk}{p:Prg}{n:Nat}{T:St}(h:QF PrN FR n 41 [.str x] S0=some (.ret (.tup [.agg (JU p),.bool true]),T)):JU (JmG x)=JU p/\Jqi x=true:=by obtain⟨m,S',hm⟩:=Jlf x;have e1:=Q0 JaJ (B5 n m) _ _ _ _ h;have e2:=Q0 JaJ (B7 n m) _ _ _ _ hm;rw[e1]at e2;simp only[V,AP,Res.ret.injEq,AV.tup.injEq,DN,AV.agg.injEq,AV.bool.injEq,and_true]at e2;exact⟨e2.1.1.symm,e2.1.2.symm⟩
theorem J4M:∃ n T,QF PrN FR n 41 [.str txA] S0=some (.ret (.tup [.agg (JU pgA),.bool true]),T):=by obtain⟨n,hn⟩:=J1s;exact⟨n,_,hn⟩
def J1x:Kn:=⟨41,[.str txB],⟨[],[]⟩,.ret (.tup [.agg (JU pgB),.bool true]),⟨[],[6,1]⟩⟩
theorem J4N:∃ n T,QF PrN FR n 41 [.str txB] S0=some (.ret (.tup [.agg (JU pgB),.bool true]),T):=by have h:Jae J1x:=JaK (ks:=[]) (λk h=>by cases h) J1x (n:=300) Ae;obtain⟨n,hn⟩:=h;exact⟨n,_,hn⟩
def FZ:Nat->Option IFn:=λn=>match n with
 | 10=>some i10
 | 15=>some i15
 | 16=>some i16
 | 17=>some i17
 | 18=>some i18
 | 19=>some i19
 | 20=>some i20
 | 21=>some i21
 | 23=>some i23
 | 26=>some i26
 | 30=>some i30
 | 33=>some i33
 | 34=>some i34
 | 35=>some i35
 | 36=>some i36
 | 38=>some i38
 | 39=>some i39
 | 40=>some i40
 | 41=>some i41
 | 44=>some i44
 | 45=>some i45
 | 51=>some i51
 | 52=>some i52
 | 53=>some i53
 | 55=>some JNh
 | 56=>some i56
 | 57=>some i57
 | 64=>some Juf
 | 65=>some i65
 | 66=>some i66
 | 68=>some i68
 | 69=>some i69
 | 70=>some i70
 | 71=>some i71
 | 75=>some i75
 | 77=>some i77
 | 78=>some i78
 | 80=>some i80
 | 89=>some i89
 | 90=>some i90
 | 91=>some i91
 | 92=>some i92
 | 93=>some i93
 | 94=>some i94
 | 95=>some i95
 | 96=>some i96
 | 97=>some i97
 | 100=>some JIU
 | 101=>some JI5
 | 102=>some JJf
 | 103=>some JJn
 | 104=>some JJy
 | 105=>some JJI
 | 106=>some JJS
 | 111=>some JNr
 | 112=>some JNN
 | 115=>some JQo
 | 116=>some JOG
 | 117=>some JOa
 | 118=>some JOO
 | 119=>some JRv
 | 120=>some JRl
 | 121=>some JQy
 | 122=>some JOv
 | 127=>some JL6
 | 130=>some JwW
 | 131=>some JwX
 | 132=>some JwY
 | 133=>some JwZ
 | 134=>some Jw0
 | 135=>some Jw1
 | 136=>some Jw2
 | 137=>some Jw3
 | 138=>some Jzj
 | 139=>some Jy1
 | 140=>some Jw4
 | 141=>some JyI
 | 142=>some JMa
 | 143=>some JMk
 | 144=>some JMm
 | 145=>some JMq
 | 146=>some JMB
 | 149=>some JAm
 | 150=>some JKf
 | 151=>some JKp
 | 176=>some JOy
 | 177=>some JOD
 | 178=>some JOg
 | 179=>some JRb
 | 180=>some JPB
 | 181=>some JPg
 | 182=>some JOm
 | 183=>some JQ0
 | 184=>some JQJ
 | 185=>some JOV
 | 186=>some JPy
 | 187=>some JQR
 | 190=>some Jw5
 | 191=>some Jw6
 | 192=>some Jxc
 | 193=>some Jxd
 | 194=>some JyZ
 | 195=>some Jxe
 | 196=>some JyN
 | 197=>some JyT
 | 198=>some JMM
 | 199=>some JMW
 | 200=>some JM1
 | 201=>some Jxs
 | 204=>some JK5
 | 218=>some JOj
 | 219=>some JRL
 | 220=>some JPL
 | 221=>some JPU
 | 222=>some JP4
 | 223=>some JQe
 | 224=>some JOe
 | 225=>some JO5
 | 226=>some Jw7
 | 227=>some Jxt
 | 228=>some Jxu
 | 229=>some JM9
 | 240=>some JRU
 | 241=>some JPr
 | 242=>some JOJ
 | 243=>some Jw8
 | 244=>some JxL
 | 245=>some JxM
 | 253=>some Jyh
 | _=>none
theorem JwA:∀ f fn,FZ f=some fn->∃ g,Tryz.prog.funcs[f]? = some g/\JK Tryz.prog g fn=true:=by
 intro f fn h;unfold FZ at h;split at h
 ·exact kx h Tryz.func10 c10
 ·exact kx h Tryz.func15 c15
 ·exact kx h Tryz.func16 c16
 ·exact kx h Tryz.func17 c17
 ·exact kx h Tryz.func18 c18
 ·exact kx h Tryz.func19 c19
 ·exact kx h Tryz.func20 c20
 ·exact kx h Tryz.func21 c21
 ·exact kx h Tryz.func23 c23
 ·exact kx h Tryz.func26 c26
 ·exact kx h Tryz.func30 c30
 ·exact kx h Tryz.func33 c33
 ·exact kx h Tryz.func34 c34
 ·exact kx h Tryz.func35 c35
 ·exact kx h Tryz.func36 c36
 ·exact kx h Tryz.func38 c38
 ·exact kx h Tryz.func39 c39
 ·exact kx h Tryz.func40 c40
 ·exact kx h Tryz.func41 c41
 ·exact kx h Tryz.func44 c44
 ·exact kx h Tryz.func45 c45
 ·exact kx h Tryz.func51 c51
 ·exact kx h Tryz.func52 c52
 ·exact kx h Tryz.func53 c53
 ·exact kx h Tryz.func55 J20
 ·exact kx h Tryz.func56 c56
 ·exact kx h Tryz.func57 c57
 ·exact kx h Tryz.func64 c64
 ·exact kx h Tryz.func65 c65
 ·exact kx h Tryz.func66 c66
 ·exact kx h Tryz.func68 c68
 ·exact kx h Tryz.func69 c69
 ·exact kx h Tryz.func70 c70
 ·exact kx h Tryz.func71 c71
 ·exact kx h Tryz.func75 c75
 ·exact kx h Tryz.func77 c77
 ·exact kx h Tryz.func78 c78
 ·exact kx h Tryz.func80 c80
 ·exact kx h Tryz.func89 c89
 ·exact kx h Tryz.func90 c90
 ·exact kx h Tryz.func91 c91
 ·exact kx h Tryz.func92 c92
 ·exact kx h Tryz.func93 c93
 ·exact kx h Tryz.func94 c94
 ·exact kx h Tryz.func95 c95
 ·exact kx h Tryz.func96 c96
 ·exact kx h Tryz.func97 c97
 ·exact kx h Tryz.func100 J2c
 ·exact kx h Tryz.func101 J2d
 ·exact kx h Tryz.func102 J2e
 ·exact kx h Tryz.func103 J2f
 ·exact kx h Tryz.func104 J2g
 ·exact kx h Tryz.func105 J2h
 ·exact kx h Tryz.func106 J2i
 ·exact kx h Tryz.func111 J25
 ·exact kx h Tryz.func112 J3B
 ·exact kx h Tryz.func115 J4k
 ·exact kx h Tryz.func116 J37
 ·exact kx h Tryz.func117 J3Y
 ·exact kx h Tryz.func118 J39
 ·exact kx h Tryz.func119 J4s
 ·exact kx h Tryz.func120 J4r
 ·exact kx h Tryz.func121 J4m
 ·exact kx h Tryz.func122 J34
 ·exact kx h Tryz.func127 J2P
 ·exact kx h Tryz.func130 JTe
 ·exact kx h Tryz.func131 JTf
 ·exact kx h Tryz.func132 JTg
 ·exact kx h Tryz.func133 JTh
 ·exact kx h Tryz.func134 JTi
 ·exact kx h Tryz.func135 JTj
 ·exact kx h Tryz.func136 JTk
 ·exact kx h Tryz.func137 JTl
 ·exact kx h Tryz.func138 JTV
 ·exact kx h Tryz.func139 JTU
 ·exact kx h Tryz.func140 JTm
 ·exact kx h Tryz.func141 JTQ
 ·exact kx h Tryz.func142 J2Q
 ·exact kx h Tryz.func143 J2R
 ·exact kx h Tryz.func144 J2S
 ·exact kx h Tryz.func145 J2T
 ·exact kx h Tryz.func146 J2U
 ·exact kx h Tryz.func149 J2j
 ·exact kx h Tryz.func150 J2l
 ·exact kx h Tryz.func151 J2m
 ·exact kx h Tryz.func176 J35
 ·exact kx h Tryz.func177 J36
 ·exact kx h Tryz.func178 J30
 ·exact kx h Tryz.func179 J4q
 ·exact kx h Tryz.func180 J4f
 ·exact kx h Tryz.func181 J4c
 ·exact kx h Tryz.func182 J32
 ·exact kx h Tryz.func183 J4p
 ·exact kx h Tryz.func184 J4n
 ·exact kx h Tryz.func185 J4a
 ·exact kx h Tryz.func186 J4e
 ·exact kx h Tryz.func187 J4o
 ·exact kx h Tryz.func190 JTn
 ·exact kx h Tryz.func191 JTo
 ·exact kx h Tryz.func192 JTu
 ·exact kx h Tryz.func193 JTv
 ·exact kx h Tryz.func194 JTT
 ·exact kx h Tryz.func195 JTw
 ·exact kx h Tryz.func196 JTR
 ·exact kx h Tryz.func197 JTS
 ·exact kx h Tryz.func198 J2V
 ·exact kx h Tryz.func199 J2W
 ·exact kx h Tryz.func200 J2X
 ·exact kx h Tryz.func201 JTx
 ·exact kx h Tryz.func204 J2F
 ·exact kx h Tryz.func218 J31
 ·exact kx h Tryz.func219 J4v
 ·exact kx h Tryz.func220 J4g
 ·exact kx h Tryz.func221 J4h
 ·exact kx h Tryz.func222 J4i
 ·exact kx h Tryz.func223 J4j
 ·exact kx h Tryz.func224 J3Z
 ·exact kx h Tryz.func225 J4b
 ·exact kx h Tryz.func226 JTp
 ·exact kx h Tryz.func227 JTy
 ·exact kx h Tryz.func228 JTz
 ·exact kx h Tryz.func229 J2Y
 ·exact kx h Tryz.func240 J4w
 ·exact kx h Tryz.func241 J4d
 ·exact kx h Tryz.func242 J38
 ·exact kx h Tryz.func243 JTq
 ·exact kx h Tryz.func244 JTA
 ·exact kx h Tryz.func245 JTB
 ·exact kx h Tryz.func253 JTC
 ·simp at h
def PrR:Jz:=λn=>match n with
 | 37=>some Jg2
 | 41=>some Jqj
 | 42=>some (Jj2 Jk5 Jk6 Jqa Jqb Jj3 Jce)
 | 54=>some Jg1
 | _=>none
theorem Jha:JeN Jg1:=λ_ _ _ _ _ _ h=>h
theorem JjI:Yy PrR:=by
 intro f p hp;unfold PrR at hp;split at hp
 ·simp only[V]at hp;subst hp;exact Jjl
 ·simp only[V]at hp;subst hp;exact λ_ _ _ _ _ _ h=>h
 ·simp only[V]at hp;subst hp;exact Jk4 _ _ _ _ _ _
 ·simp only[V]at hp;subst hp;exact Jha
 ·simp at hp
theorem JDI:∀ f p,PrR f=some p->ZL Tryz.prog f p:=by
 intro f p hp;unfold PrR at hp;split at hp
 ·simp only[V]at hp;subst hp;exact Joa
 ·simp only[V]at hp;subst hp;exact Jth
 ·simp only[V]at hp;subst hp;exact Jle
 ·simp only[V]at hp;subst hp;exact Jn8
 ·simp at hp
theorem JmH{pr:Jz}{F:Nat->Option IFn}(hp:Yy pr){n f:Nat}{vs:List AV}{S S':St}{r:Res}(h:QF pr F n f vs S=some (r,S')):Det pr F f vs S r S':=by
 have h2:Wp pr F f vs S λa b=>a=r/\b=S':=⟨n,r,S',h,rfl,rfl⟩
 obtain⟨r',S2,hd,rfl,rfl⟩:=h2.det hp;exact hd
theorem Jr4:∀ l:List Jk,JcY (l.map Qy)=some l
 | []=>rfl
 | s::l=>by show(match JcY (l.map Qy)with |some l=>some (s::l) |none=>none)=_;rw[Jr4 l]
theorem Jr5(k:Nat)(hk:0<k):∀ l:List Jk,Jeg k l=(l.map λx=>x.length+k).sum/\l.length<=(l.map λx=>x.length+k).sum
 | []=>⟨rfl,Ao _⟩
 | s::l=>by obtain⟨h1,h2⟩:=Jr5 k hk l;simp only[Jeg,Ap,Du,Ad];omega
theorem Jlg{pr:Jz}{F:Nat->Option IFn}(hp:Yy pr)(hj:pr 54=some Jg1)(l:List Jk)(sep:Jk)(v:AV)(H:List Blk)(rw:List Nat)(hv:IsL 1 v (l.map Qy))(hl:(l.map λx=>x.length+sep.length).sum<=2147483648)(hs:0<sep.length) :
  Det pr F 54 [v,.str sep] ⟨H,rw⟩ (.ret (.str (Xb sep l))) ⟨H,rw⟩:=by
 obtain⟨z,tg,rfl,-,-⟩:=hv.ex;obtain⟨h1,h2⟩:=Jr5 sep.length hs l;refine JmH hp (n:=1) ?_;simp only[QF,hj];show Jg1 (QF pr F 0) [.list z tg (l.map Qy),.str sep] ⟨H,rw⟩=_;simp only[Jg1,Jr4];rw[if_pos ⟨O,O⟩]
theorem J1y:LibZ PrR FZ where
 hm:=JjI
 join:=λl sep v H rw hv hl hs=>Jlg JjI rfl l sep v H rw hv hl hs
 p37:=rfl
 p42:=rfl
 f89:=rr
 f130:=rr
 f131:=rr
 f132:=rr
 f133:=rr
 f190:=rr
 f191:=rr
 f226:=rr
 f243:=rr
 f90:=rr
 f93:=rr
 f95:=rr
 f134:=rr
 f135:=rr
 f136:=rr
 f140:=rr
 f192:=rr
 f193:=rr
 f195:=rr
 f201:=rr
 f227:=rr
 f228:=rr
 f244:=rr
 f245:=rr
 f253:=rr
 f94:=rr
 f141:=rr
 f196:=rr
 f197:=rr
 f137:=rr
 f194:=rr
 f139:=rr
 f138:=rr
 f91:=rr
 f92:=rr
 f51:=rr
 f19:=rr
 f15:=rr
 f17:=rr
 f20:=rr
 f26:=rr
 f30:=rr
 f56:=rr
 f64:=rr
 f65:=rr
 f66:=rr
 f100:=rr
 f101:=rr
 f102:=rr
 f103:=rr
 f104:=rr
 f105:=rr
 f106:=rr
 f149:=rr
 f150:=rr
 f151:=rr
 f16:=rr
 f18:=rr
 f21:=rr
 f53:=rr
 f57:=rr
 f204:=rr
 f52:=rr
 f96:=rr
 f97:=rr
 f127:=rr
 f142:=rr
 f143:=rr
 f144:=rr
 f145:=rr
 f146:=rr
 f198:=rr
 f199:=rr
 f200:=rr
 f229:=rr
 f55:=rr
 f23:=rr
 f33:=rr
 f34:=rr
 f35:=rr
 f36:=rr
 f68:=rr
 f69:=rr
 f111:=rr
 f38:=rr
 f39:=rr
 f70:=rr
 f71:=rr
 f75:=rr
 f112:=rr
 f45:=rr
 f77:=rr
 f78:=rr
 f115:=rr
 f116:=rr
 f117:=rr
 f118:=rr
 f119:=rr
 f120:=rr
 f121:=rr
 f122:=rr
 f176:=rr
 f177:=rr
 f178:=rr
 f179:=rr
 f180:=rr
 f181:=rr
 f182:=rr
 f183:=rr
 f184:=rr
 f185:=rr
 f186:=rr
 f187:=rr
 f218:=rr
 f220:=rr
 f221:=rr
 f222:=rr
 f223:=rr
 f224:=rr
 f225:=rr
 f241:=rr
 f242:=rr
 f219:=rr
 f240:=rr
theorem JwB{x:Jk}{p:Prg}(h:∃ n T,QF PrN FR n 41 [.str x] S0=some (.ret (.tup [.agg (JU p),.bool true]),T)):JoJ PrR FZ x p:=by obtain⟨n,T,h⟩:=h;obtain⟨h1,h2⟩:=JSI h;intro H rw;refine⟨rw,Rx.rfl,?_⟩;rw[<- h1,<- h2];exact JmH JjI (n:=1) rfl
theorem JSK:∃ n S',QF PrR FZ n 40 [] S0=some (.ret (.bool true),S'):=by obtain⟨n,r,S',h1,rfl⟩:=J4I J1y ⟨rfl,rfl⟩ (JwB J4M) (JwB J4N) [] [];exact⟨n,S',h1⟩
def JmI:Ky->List AV->St->Option (Res×St):=λ_ vs S=>match vs with
 | []=>some (.ret (.bool true),S)
 | _=>none
theorem Jqk:ZL Tryz.prog 40 JmI:=by
 intro cl hcl vs S r S' hx K w us R hI ha;unfold JmI at hx;split at hx
 ·simp only[V,AP]at hx;obtain⟨rfl,rfl⟩:=hx;obtain⟨n,S2,hn⟩:=JSK;exact Jrj (Jdb JDI (λf fn _ h=>JwA f fn h) n) (f:=40) (vs:=[]) (v:=.bool true) (S':=S2) hn rfl rfl R ha
 ·simp at hx
def PrZ:Jz:=λn=>match n with
 | 37=>some Jg2
 | 40=>some JmI
 | 42=>some (Jj2 Jk5 Jk6 Jqa Jqb Jj3 Jce)
 | 54=>some Jg1
 | _=>none
theorem Jft:Yy PrZ:=by
 intro f p hp;unfold PrZ at hp;split at hp
 ·simp only[V]at hp;subst hp;exact Jjl
 ·simp only[V]at hp;subst hp;exact λ_ _ _ _ _ _ h=>h
 ·simp only[V]at hp;subst hp;exact Jk4 _ _ _ _ _ _
 ·simp only[V]at hp;subst hp;exact Jha
 ·simp at hp
theorem JDJ:∀ f p,PrZ f=some p->ZL Tryz.prog f p:=by
 intro f p hp;unfold PrZ at hp;split at hp
 ·simp only[V]at hp;subst hp;exact Joa
 ·simp only[V]at hp;subst hp;exact Jqk
 ·simp only[V]at hp;subst hp;exact Jle
 ·simp only[V]at hp;subst hp;exact Jn8
 ·simp at hp
theorem J1z:LibZ10 PrZ FZ where
 hm:=Jft
 join:=λl sep v H rw hv hl hs=>Jlg Jft rfl l sep v H rw hv hl hs
 p37:=rfl
 p42:=rfl
 f89:=rr
 f130:=rr
 f131:=rr
 f132:=rr
 f133:=rr
 f190:=rr
 f191:=rr
 f226:=rr
 f243:=rr
 f90:=rr
 f93:=rr
 f95:=rr
 f134:=rr
 f135:=rr
 f136:=rr
 f140:=rr
 f192:=rr
 f193:=rr
 f195:=rr
 f201:=rr
 f227:=rr
 f228:=rr
 f244:=rr
 f245:=rr
 f253:=rr
 f94:=rr
 f141:=rr
 f196:=rr
 f197:=rr
 f137:=rr
 f194:=rr
 f139:=rr
 f138:=rr
 f91:=rr
 f92:=rr
 f51:=rr
 f19:=rr
 f15:=rr
 f17:=rr
 f20:=rr
 f26:=rr
 f30:=rr
 f56:=rr
 f64:=rr
 f65:=rr
 f66:=rr
 f100:=rr
 f101:=rr
 f102:=rr
 f103:=rr
 f104:=rr
 f105:=rr
 f106:=rr
 f149:=rr
 f150:=rr
 f151:=rr
 f16:=rr
 f18:=rr
 f21:=rr
 f53:=rr
 f57:=rr
 f204:=rr
 f52:=rr
 f96:=rr
 f97:=rr
 f127:=rr
 f142:=rr
 f143:=rr
 f144:=rr
 f145:=rr
 f146:=rr
 f198:=rr
 f199:=rr
 f200:=rr
 f229:=rr
 f55:=rr
 f23:=rr
 f33:=rr
 f34:=rr
 f35:=rr
 f36:=rr
 f68:=rr
 f69:=rr
 f111:=rr
 f38:=rr
 f39:=rr
 f70:=rr
 f71:=rr
 f75:=rr
 f112:=rr
 f45:=rr
 f77:=rr
 f78:=rr
 f115:=rr
 f116:=rr
 f117:=rr
 f118:=rr
 f119:=rr
 f120:=rr
 f121:=rr
 f122:=rr
 f176:=rr
 f177:=rr
 f178:=rr
 f179:=rr
 f180:=rr
 f181:=rr
 f182:=rr
 f183:=rr
 f184:=rr
 f185:=rr
 f186:=rr
 f187:=rr
 f218:=rr
 f220:=rr
 f221:=rr
 f222:=rr
 f223:=rr
 f224:=rr
 f225:=rr
 f241:=rr
 f242:=rr
 f219:=rr
 f240:=rr
 f10:=rr
 f41:=rr
 f44:=rr
 f80:=rr
theorem JDK{F:Nat->Option IFn}(hF:∀ f fn,F f=some fn->∃ g,Tryz.prog.funcs[f]? = some g/\JK Tryz.prog g fn=true){f:Nat}{vs:List AV}{us:List Value}(hf:PrZ f=none)(h:Wp PrZ F f vs S0 JkQ)(ha:RepT K0 vs us)(w:World) :
  Calls Tryz.prog f us.toArray w λe w'=>e=.returned (.bool true)/\RowKit.Below w.heap.size w w':=by
 obtain⟨n,r,S',h1,rfl⟩:=h;exact Jty JDJ (λf fn _ h=>hF f fn h) hf (Jiv Jft n _ _ _ _ h1) ha w
theorem ts_row(x:Jk){us:List Value}(ha:RepT K0 [.str x] us)(w:World):Calls Tryz.prog 10 us.toArray w λe w'=>e=.returned (.bool true)/\RowKit.Below w.heap.size w w':=
 JDK JwA rfl (J4z J1z (λ_=>JmH Jft (n:=1) rfl) x [] []) ha w
end Go.Proofs.YtmeakjgbjldkdaaGreat.Ai
namespace Go.Proofs.YtmeakjgbjldkdaaGreat
open Go.ChangeShapes Go.WideShapes Go.ChangeAt Go.RowKit
open Go.ChangeMaps (open_string shut_string)
theorem Tryz.own:ownKnob Tryz.prog.godebug=none:=Ai.Ae
theorem J1L(s:ByteArray)(w:World):Calls Tryz.prog 10 #[.string s] w λe w'=>e=.returned (.bool true)/\Below w.heap.size w w':=by obtain⟨⟨l⟩⟩:=s;exact Ai.ts_row l (us:=[.string ⟨⟨l⟩⟩]) (by simp only[Ai.RepT,Ai.Rep];exact⟨_,_,rfl,rfl,rfl⟩) w
theorem JNP(os:Os)(started:os.Started)(H:Type)(enc:TypeId×Value->H) :
  ReturnsInHanded {} Tryz.checked os 10 .any (Rows.typingStrangeSpec.pre6 enc Tryz.prog Tryz.f10 Rows.typingStrangeRow.domain false) (Rows.typingStrangeSpec.post enc Tryz.prog Tryz.f10 false true false false):=by
 refine returnsInHanded_of_change (C:=Tryz.checked) Tryz.own started Ai.Ae Tryz.func10
  (ChangeSpec.witness6 (enc:=enc) (C:=Tryz.checked) false ⟨#[],#[.string ⟨#[]⟩],[]⟩ 8 Ai.Ae Ai.Ae Ai.Ae Ai.Ae) ?_
 intro W base args ds gs before hval0 hW hcnd _;have hval:∀(j:Nat) t v,Tryz.f10.params[j]? = some t->args[j]? = some v->Value.okWide Tryz.prog W .any base t v:=hval0;have hW':=hW;obtain⟨p,q,hA0,hV,rfl,hfz,hnd⟩:=hW;have hA:DataW.TrodAll enc Tryz.prog W 0 (λ_=>true) true Tryz.f10.params.toList args.toList ds p:=hA0;rw[Tryz.params10]at hA hval;obtain⟨v0,d0,rfl,rfl,h0⟩:=trodAll_one hA;obtain⟨rfl,rfl⟩:=trodVars_none hV;obtain⟨s,rfl,rfl,rfl,hs⟩:=open_string Tryz.underlying9 (hval 0 9 v0 rfl rfl) h0;clear hA0 hval0;simp only[Ar]at hW';refine(J1L s W).mono λe W' ⟨he,hb⟩=>?_;subst he;exact⟨_,rfl,_,_,_,[],[],[],hW',trodAll_mk1 (shut_bool Tryz.underlying4 true),trodAll_mk1 (shut_string Tryz.underlying9 hs),rfl,hb.frame _,λh=>by cases h⟩
theorem typingStrange_holds:Rows.TypingStrangeSaid:=
 OpenClaim.holds_of_wide 10 Tryz.f10 rfl rfl rfl rfl rfl rfl rfl ⟨rfl,rfl,rfl,rfl,rfl⟩ rfl rfl rfl rfl rfl Ai.Ae Tryz.func10 Ai.Ae
  (of_decide_eq_true Ai.Ae) (by unfold Func.isWrapper;first |(rw[if_pos (by decide +kernel)];kernel_rfl) |(rw[if_neg (by decide +kernel)];exact⟨rfl,rfl⟩))
  (λos started H enc _=>JNP os started H enc)
#print axioms typingStrange_holds
end Go.Proofs.YtmeakjgbjldkdaaGreat
