/- The row. No condition. -/
import Derived.Test.YtmeakjgbjldkdaaGreatC9
import Derived.Test.YtmeakjgbjldkdaaGreatRows
import Derived.ProofKit
set_option maxRecDepth 100000
set_option maxHeartbeats 16000000
noncomputable section
namespace Go.Proofs.YtmeakjgbjldkdaaGreat.Ai
open Go Go.Proofs.Tryz
theorem Jer(sz:Nat)(rows:List (List AV)):VK (Kp sz rows)=Xv rows:=by
 cases rows with
 | nil=>rfl
 | cons r rs=>simp only[Kp,VK,Jrh,BW]
theorem JmE:∀(a b:List AV),QI (a++b)=(QI a && QI b)
 | [],b=>by simp[QI]
 | x::a,b=>by simp only[Aw,QI,JmE a b,DV]
theorem Jc7{α:Type}(f:α->List AV)(h:∀ x,QI (f x)=true):∀ l:List α,Xv (l.map f)=true
 | []=>rfl
 | x::l=>by simp only[Ap,Xv,h,Jc7 f h l,A0]
mutual
theorem Jr3:∀ t:Ty,QI (Jl t)=true
 | .mk kind name null K5 pred at_=>by simp only[Jl,QI,VK,Jer,JmF K5,Jgh pred,A0]
theorem JmF:∀ ts:List Ty,Xv (Jo ts)=true
 | []=>by simp only[Jo,Xv]
 | t::ts=>by simp only[Jo,Xv,Jr3 t,JmF ts,A0]
theorem J1t:∀ t:Xp,QI (Jb t)=true
 | .mk op name args ty at_=>by simp only[Jb,QI,VK,Jer,JmF ty,Jgh args,A0]
theorem Jgh:∀ ts:List Xp,Xv (Ja ts)=true
 | []=>by simp only[Ja,Xv]
 | t::ts=>by simp only[Ja,Xv,J1t t,Jgh ts,A0]
end
mutual
theorem J1u:∀ t:Sm,QI (Jp t)=true
 | .mk kind name ty exs body els at_=>by simp only[Jp,QI,VK,Jer,JmF ty,Jgh exs,Jgi body,Jgi els,A0]
theorem Jgi:∀ ts:List Sm,Xv (Jg ts)=true
 | []=>by simp only[Jg,Xv]
 | t::ts=>by simp only[Jg,Xv,J1u t,Jgi ts,A0]
end
theorem Jwz(p:Par):QI (Jf p)=true:=by simp only[Jf,QI,VK,JmE,Jr3,A0]
theorem JSC(p:Fld):QI (Jn p)=true:=by simp only[Jn,QI,VK,JmE,Jr3,A0]
theorem JSD(p:Mth):QI (Jm p)=true:=by simp only[Jm,QI,VK,JmE,Jr3,Jer,Jgi,Jc7 Jf Jwz,A0]
theorem JSE(p:Ctr):QI (Jw p)=true:=by simp only[Jw,QI,VK,Jer,Jgi,Jgh,Jc7 Jf Jwz,A0]
theorem J1v(x:Jk):QI (Qy x)=true:=rfl
theorem JSF(c:Cls):QI (Jc c)=true:=by simp only[Jc,QI,VK,Jer,Jgh,Jc7 Qy J1v,Jc7 Jn JSC,Jc7 Jw JSE,Jc7 Jm JSD,A0]
theorem JSG(p:Prg):QI (JU p)=true:=by simp only[JU,QI,Jer,Jgi,Jc7 Jc JSF,A0]
theorem k{f:Nat}{i fn:IFn}{g:Func}(a:prog.funcs[f]? = some g)(b:JK prog g i=true)(h:some i=some fn):∃ g,prog.funcs[f]? = some g/\JK prog g fn=true:=by cases h;exact⟨g,a,b⟩
theorem r{pr:Jz}{F:Nat->Option IFn}{n:Nat}{i:IFn}(h1:pr n=none:=by rfl)(h2:F n=some i:=by rfl):QG pr F n i:=⟨h1,h2⟩
theorem JDH:∀ f p,PrN f=some p->ZL prog f p:=λf p h=>EB
theorem JSH:∀ f fn,FR f=some fn->∃ g,prog.funcs[f]? = some g/\JK prog g fn=true:=by
 intro f fn;unfold FR;split
 ·exact k func89 c89
 ·exact k func90 c90
 ·exact k func93 c93
 ·exact k func95 c95
 ·exact k func130 JTe
 ·exact k func131 JTf
 ·exact k func132 JTg
 ·exact k func133 JTh
 ·exact k func134 JTi
 ·exact k func135 JTj
 ·exact k func136 JTk
 ·exact k func137 JTl
 ·exact k func140 JTm
 ·exact k func190 JTn
 ·exact k func191 JTo
 ·exact k func226 JTp
 ·exact k func243 JTq
 ·exact k func192 JTu
 ·exact k func193 JTv
 ·exact k func195 JTw
 ·exact k func201 JTx
 ·exact k func227 JTy
 ·exact k func228 JTz
 ·exact k func244 JTA
 ·exact k func245 JTB
 ·exact k func253 JTC
 ·exact k func94 c94
 ·exact k func141 JTQ
 ·exact k func196 JTR
 ·exact k func197 JTS
 ·exact k func194 JTT
 ·exact k func139 JTU
 ·exact k func138 JTV
 ·exact k func91 c91
 ·exact k func92 c92
 ·exact k func51 c51
 ·exact k func41 c41
 ·simp
theorem J1w:LibS PrN FR:={hm:=JaJ,f89:=r,f130:=r,f131:=r,f132:=r,f133:=r,f190:=r,f191:=r,f226:=r,f243:=r,f90:=r,f93:=r,f95:=r,f134:=r,f135:=r,f136:=r,f140:=r,f192:=r,f193:=r,f195:=r,f201:=r,f227:=r,f228:=r,f244:=r,f245:=r,f253:=r,f94:=r,f141:=r,f196:=r,f197:=r,f137:=r,f194:=r,f139:=r,f138:=r,f91:=r,f92:=r,f51:=r}
theorem rd3(x:Jk):∃(p:Prg) (ok:Bool),∃ n S',QF PrN FR n 41 [.str x] S0=some (.ret (.tup [.agg (JU p),.bool ok]),S'):=by obtain⟨⟨p,ok,rw⟩,-,hd⟩:=JiG J1w ⟨rfl,rfl⟩ [] [] x;refine⟨p,ok,?_⟩;obtain⟨n,r,S',h1,rfl⟩:=(hd λr _=>r=.ret (.tup [.agg (JU p),.bool ok])).2 rfl;exact⟨n,S',h1⟩
def JmG(x:Jk):Prg:=Classical.choose (rd3 x)
def Jqi(x:Jk):Bool:=Classical.choose (BB (rd3 x))
theorem Jlf(x:Jk):∃ n S',QF PrN FR n 41 [.str x] S0=some (.ret (.tup [.agg (JU (JmG x)),.bool (Jqi x)]),S'):=BB (BB (rd3 x))
def Jqj:Ky->List AV->St->Option (Res×St):=λ_ vs S=>match vs with
 | [.str x]=>some (.ret (.tup [.agg (JU (JmG x)),.bool (Jqi x)]),S)
 | _=>none
theorem Jth:ZL prog 41 Jqj:=by
 intro cl hcl vs S r S' hx K w us R hI ha;unfold Jqj at hx;split at hx
 ·rename_i x;simp only[V,AP]at hx;obtain⟨rfl,rfl⟩:=hx;obtain⟨n,S',hn⟩:=Jlf x;exact Jrj (Jdb JDH (λf fn _ h=>JSH f fn h) n) hn (by simp only[VK,QI,JSG,A0]) rfl R ha
 ·simp at hx
theorem JSI{x:Jk}{p:Prg}{n:Nat}{T:St}(h:QF PrN FR n 41 [.str x] S0=some (.ret (.tup [.agg (JU p),.bool true]),T)):JU (JmG x)=JU p/\Jqi x=true:=by obtain⟨m,S',hm⟩:=Jlf x;have e1:=Q0 JaJ (B5 n m) _ _ _ _ h;have e2:=Q0 JaJ (B7 n m) _ _ _ _ hm;rw[e1]at e2;simp only[V,AP,Res.ret.injEq,AV.tup.injEq,DN,AV.agg.injEq,AV.bool.injEq,and_true]at e2;exact⟨e2.1.1.symm,e2.1.2.symm⟩
theorem J4M:∃ n T,QF PrN FR n 41 [.str txA] S0=some (.ret (.tup [.agg (JU pgA),.bool true]),T):=by obtain⟨n,hn⟩:=J1s;exact⟨n,_,hn⟩
def J1x:Kn:=⟨41,[.str txB],⟨[],[]⟩,.ret (.tup [.agg (JU pgB),.bool true]),⟨[],[6,1]⟩⟩
theorem J4N:∃ n T,QF PrN FR n 41 [.str txB] S0=some (.ret (.tup [.agg (JU pgB),.bool true]),T):=by have h:Jae J1x:=JaK (ks:=[]) (λk h=>EB) J1x (n:=300) Ae;obtain⟨n,hn⟩:=h;exact⟨n,_,hn⟩
def FZ:Nat->Option IFn:=λn=>match n with|11=>i11|15=>i15|16=>i16|17=>i17|18=>i18|19=>i19|20=>i20|21=>i21|23=>i23|26=>i26|30=>i30|33=>i33|34=>i34|35=>i35|36=>i36|38=>i38|39=>i39|40=>i40|41=>i41|44=>i44|45=>i45|46=>i46|51=>i51|52=>i52|53=>i53|55=>JNh|56=>i56|57=>i57|64=>Juf|65=>i65|66=>i66|68=>i68|69=>i69|70=>i70|71=>i71|75=>i75|77=>i77|78=>i78|80=>i80|81=>i81|82=>i82|89=>i89|90=>i90|91=>i91|92=>i92|93=>i93|94=>i94|95=>i95|96=>i96|97=>i97|100=>JIU|101=>JI5|102=>JJf|103=>JJn|104=>JJy|105=>JJI|106=>JJS|111=>JNr|112=>JNN|115=>JQo|116=>JOG|117=>JOa|118=>JOO|119=>JRv|120=>JRl|121=>JQy|122=>JOv|123=>JVO|124=>JVP|125=>JVQ|127=>JL6|130=>JwW|131=>JwX|132=>JwY|133=>JwZ|134=>Jw0|135=>Jw1|136=>Jw2|137=>Jw3|138=>Jzj|139=>Jy1|140=>Jw4|141=>JyI|142=>JMa|143=>JMk|144=>JMm|145=>JMq|146=>JMB|149=>JAm|150=>JKf|151=>JKp|176=>JOy|177=>JOD|178=>JOg|179=>JRb|180=>JPB|181=>JPg|182=>JOm|183=>JQ0|184=>JQJ|185=>JOV|186=>JPy|187=>JQR|190=>Jw5|191=>Jw6|192=>Jxc|193=>Jxd|194=>JyZ|195=>Jxe|196=>JyN|197=>JyT|198=>JMM|199=>JMW|200=>JM1|201=>Jxs|204=>JK5|218=>JOj|219=>JRL|220=>JPL|221=>JPU|222=>JP4|223=>JQe|224=>JOe|225=>JO5|226=>Jw7|227=>Jxt|228=>Jxu|229=>JM9|240=>JRU|241=>JPr|242=>JOJ|243=>Jw8|244=>JxL|245=>JxM|253=>Jyh|_=>none
theorem JwA:∀ f fn,FZ f=some fn->∃ g,prog.funcs[f]? = some g/\JK prog g fn=true:=by
 intro f fn;unfold FZ;split
 ·exact k func11 c11
 ·exact k func15 c15
 ·exact k func16 c16
 ·exact k func17 c17
 ·exact k func18 c18
 ·exact k func19 c19
 ·exact k func20 c20
 ·exact k func21 c21
 ·exact k func23 c23
 ·exact k func26 c26
 ·exact k func30 c30
 ·exact k func33 c33
 ·exact k func34 c34
 ·exact k func35 c35
 ·exact k func36 c36
 ·exact k func38 c38
 ·exact k func39 c39
 ·exact k func40 c40
 ·exact k func41 c41
 ·exact k func44 c44
 ·exact k func45 c45
 ·exact k func46 c46
 ·exact k func51 c51
 ·exact k func52 c52
 ·exact k func53 c53
 ·exact k func55 J20
 ·exact k func56 c56
 ·exact k func57 c57
 ·exact k func64 c64
 ·exact k func65 c65
 ·exact k func66 c66
 ·exact k func68 c68
 ·exact k func69 c69
 ·exact k func70 c70
 ·exact k func71 c71
 ·exact k func75 c75
 ·exact k func77 c77
 ·exact k func78 c78
 ·exact k func80 c80
 ·exact k func81 c81
 ·exact k func82 c82
 ·exact k func89 c89
 ·exact k func90 c90
 ·exact k func91 c91
 ·exact k func92 c92
 ·exact k func93 c93
 ·exact k func94 c94
 ·exact k func95 c95
 ·exact k func96 c96
 ·exact k func97 c97
 ·exact k func100 J2c
 ·exact k func101 J2d
 ·exact k func102 J2e
 ·exact k func103 J2f
 ·exact k func104 J2g
 ·exact k func105 J2h
 ·exact k func106 J2i
 ·exact k func111 J25
 ·exact k func112 J3B
 ·exact k func115 J4k
 ·exact k func116 J37
 ·exact k func117 J3Y
 ·exact k func118 J39
 ·exact k func119 J4s
 ·exact k func120 J4r
 ·exact k func121 J4m
 ·exact k func122 J34
 ·exact k func123 J6d
 ·exact k func124 J6e
 ·exact k func125 J6f
 ·exact k func127 J2P
 ·exact k func130 JTe
 ·exact k func131 JTf
 ·exact k func132 JTg
 ·exact k func133 JTh
 ·exact k func134 JTi
 ·exact k func135 JTj
 ·exact k func136 JTk
 ·exact k func137 JTl
 ·exact k func138 JTV
 ·exact k func139 JTU
 ·exact k func140 JTm
 ·exact k func141 JTQ
 ·exact k func142 J2Q
 ·exact k func143 J2R
 ·exact k func144 J2S
 ·exact k func145 J2T
 ·exact k func146 J2U
 ·exact k func149 J2j
 ·exact k func150 J2l
 ·exact k func151 J2m
 ·exact k func176 J35
 ·exact k func177 J36
 ·exact k func178 J30
 ·exact k func179 J4q
 ·exact k func180 J4f
 ·exact k func181 J4c
 ·exact k func182 J32
 ·exact k func183 J4p
 ·exact k func184 J4n
 ·exact k func185 J4a
 ·exact k func186 J4e
 ·exact k func187 J4o
 ·exact k func190 JTn
 ·exact k func191 JTo
 ·exact k func192 JTu
 ·exact k func193 JTv
 ·exact k func194 JTT
 ·exact k func195 JTw
 ·exact k func196 JTR
 ·exact k func197 JTS
 ·exact k func198 J2V
 ·exact k func199 J2W
 ·exact k func200 J2X
 ·exact k func201 JTx
 ·exact k func204 J2F
 ·exact k func218 J31
 ·exact k func219 J4v
 ·exact k func220 J4g
 ·exact k func221 J4h
 ·exact k func222 J4i
 ·exact k func223 J4j
 ·exact k func224 J3Z
 ·exact k func225 J4b
 ·exact k func226 JTp
 ·exact k func227 JTy
 ·exact k func228 JTz
 ·exact k func229 J2Y
 ·exact k func240 J4w
 ·exact k func241 J4d
 ·exact k func242 J38
 ·exact k func243 JTq
 ·exact k func244 JTA
 ·exact k func245 JTB
 ·exact k func253 JTC
 ·simp
def PrR:Jz:=λn=>match n with
 | 37=>some Jg2
 | 41=>some Jqj
 | 42=>some (Jj2 Jk5 Jk6 Jqa Jqb Jj3 Jce)
 | 54=>some Jg1
 | _=>none
theorem Jha:JeN Jg1:=λ_ _ _ _ _ _ h=>h
theorem JjI:Yy PrR:=by
 intro f p hp;unfold PrR at hp;split at hp
 ·simp only[V]at hp;subst hp;exact Jjl
 ·simp only[V]at hp;subst hp;exact λ_ _ _ _ _ _ h=>h
 ·simp only[V]at hp;subst hp;exact Jk4 _ _ _ _ _ _
 ·simp only[V]at hp;subst hp;exact Jha
 ·simp at hp
theorem JDI:∀ f p,PrR f=some p->ZL prog f p:=by
 intro f p hp;unfold PrR at hp;split at hp
 ·simp only[V]at hp;subst hp;exact Joa
 ·simp only[V]at hp;subst hp;exact Jth
 ·simp only[V]at hp;subst hp;exact Jle
 ·simp only[V]at hp;subst hp;exact Jn8
 ·simp at hp
theorem JmH{pr:Jz}{F:Nat->Option IFn}(hp:Yy pr){n f:Nat}{vs:List AV}{S S':St}{r:Res}(h:QF pr F n f vs S=some (r,S')):Det pr F f vs S r S':=by
 have h2:Wp pr F f vs S λa b=>a=r/\b=S':=⟨n,r,S',h,rfl,rfl⟩
 obtain⟨r',S2,hd,rfl,rfl⟩:=h2.det hp;exact hd
theorem Jr4:∀ l:List Jk,JcY (l.map Qy)=some l
 | []=>rfl
 | s::l=>by show(match JcY (l.map Qy)with |some l=>some (s::l) |none=>none)=_;rw[Jr4 l]
theorem Jr5(k:Nat)(hk:0<k):∀ l:List Jk,Jeg k l=(l.map λx=>x.length+k).sum/\l.length<=(l.map λx=>x.length+k).sum
 | []=>⟨rfl,Ao _⟩
 | s::l=>by obtain⟨h1,h2⟩:=Jr5 k hk l;simp only[Jeg,Ap,Du,Ad];omega
theorem Jlg{pr:Jz}{F:Nat->Option IFn}(hp:Yy pr)(hj:pr 54=some Jg1)(l:List Jk)(sep:Jk)(v:AV)(H:List Blk)(rw:List Nat)(hv:IsL 1 v (l.map Qy))(hl:(l.map λx=>x.length+sep.length).sum<=2147483648)(hs:0<sep.length) :
  Det pr F 54 [v,.str sep] ⟨H,rw⟩ (.ret (.str (Xb sep l))) ⟨H,rw⟩:=by
 obtain⟨z,tg,rfl,-,-⟩:=hv.ex;obtain⟨h1,h2⟩:=Jr5 sep.length hs l;refine JmH hp (n:=1) ?_;simp only[QF,hj];show Jg1 (QF pr F 0) [.list z tg (l.map Qy),.str sep] ⟨H,rw⟩=_;simp only[Jg1,Jr4];rw[if_pos ⟨O,O⟩]
theorem J1y:LibZ PrR FZ:={hm:=JjI,join:=λl sep v H rw hv hl hs=>Jlg JjI rfl l sep v H rw hv hl hs,p37:=rfl,p42:=rfl,f89:=r,f130:=r,f131:=r,f132:=r,f133:=r,f190:=r,f191:=r,f226:=r,f243:=r,f90:=r,f93:=r,f95:=r,f134:=r,f135:=r,f136:=r,f140:=r,f192:=r,f193:=r,f195:=r,f201:=r,f227:=r,f228:=r,f244:=r,f245:=r,f253:=r,f94:=r,f141:=r,f196:=r,f197:=r,f137:=r,f194:=r,f139:=r,f138:=r,f91:=r,f92:=r,f51:=r,f19:=r,f15:=r,f17:=r,f20:=r,f26:=r,f30:=r,f56:=r,f64:=r,f65:=r,f66:=r,f100:=r,f101:=r,f102:=r,f103:=r,f104:=r,f105:=r,f106:=r,f149:=r,f150:=r,f151:=r,f16:=r,f18:=r,f21:=r,f53:=r,f57:=r,f204:=r,f52:=r,f96:=r,f97:=r,f127:=r,f142:=r,f143:=r,f144:=r,f145:=r,f146:=r,f198:=r,f199:=r,f200:=r,f229:=r,f55:=r,f23:=r,f33:=r,f34:=r,f35:=r,f36:=r,f68:=r,f69:=r,f111:=r,f38:=r,f39:=r,f70:=r,f71:=r,f75:=r,f112:=r,f45:=r,f77:=r,f78:=r,f115:=r,f116:=r,f117:=r,f118:=r,f119:=r,f120:=r,f121:=r,f122:=r,f176:=r,f177:=r,f178:=r,f179:=r,f180:=r,f181:=r,f182:=r,f183:=r,f184:=r,f185:=r,f186:=r,f187:=r,f218:=r,f220:=r,f221:=r,f222:=r,f223:=r,f224:=r,f225:=r,f241:=r,f242:=r,f219:=r,f240:=r}
theorem JwB{x:Jk}{p:Prg}(h:∃ n T,QF PrN FR n 41 [.str x] S0=some (.ret (.tup [.agg (JU p),.bool true]),T)):JoJ PrR FZ x p:=by obtain⟨n,T,h⟩:=h;obtain⟨h1,h2⟩:=JSI h;intro H rw;refine⟨rw,Rx.rfl,?_⟩;rw[<- h1,<- h2];exact JmH JjI (n:=1) rfl
theorem JSK:∃ n S',QF PrR FZ n 40 [] S0=some (.ret (.bool true),S'):=by obtain⟨n,r,S',h1,rfl⟩:=J4I J1y ⟨rfl,rfl⟩ (JwB J4M) (JwB J4N) [] [];exact⟨n,S',h1⟩
def JmI:Ky->List AV->St->Option (Res×St):=λ_ vs S=>match vs with
 | []=>some (.ret (.bool true),S)
 | _=>none
theorem Jqk:ZL prog 40 JmI:=by
 intro cl hcl vs S r S' hx K w us R hI ha;unfold JmI at hx;split at hx
 ·simp only[V,AP]at hx;obtain⟨rfl,rfl⟩:=hx;obtain⟨n,S2,hn⟩:=JSK;exact Jrj (Jdb JDI (λf fn _ h=>JwA f fn h) n) (f:=40) (vs:=[]) (v:=.bool true) (S':=S2) hn rfl rfl R ha
 ·simp at hx
def PrZ:Jz:=λn=>match n with
 | 37=>some Jg2
 | 40=>some JmI
 | 42=>some (Jj2 Jk5 Jk6 Jqa Jqb Jj3 Jce)
 | 54=>some Jg1
 | _=>none
theorem Jft:Yy PrZ:=by
 intro f p hp;unfold PrZ at hp;split at hp
 ·simp only[V]at hp;subst hp;exact Jjl
 ·simp only[V]at hp;subst hp;exact λ_ _ _ _ _ _ h=>h
 ·simp only[V]at hp;subst hp;exact Jk4 _ _ _ _ _ _
 ·simp only[V]at hp;subst hp;exact Jha
 ·simp at hp
theorem JDJ:∀ f p,PrZ f=some p->ZL prog f p:=by
 intro f p hp;unfold PrZ at hp;split at hp
 ·simp only[V]at hp;subst hp;exact Joa
 ·simp only[V]at hp;subst hp;exact Jqk
 ·simp only[V]at hp;subst hp;exact Jle
 ·simp only[V]at hp;subst hp;exact Jn8
 ·simp at hp
theorem J1z:LibZ11 PrZ FZ:={hm:=Jft,join:=λl sep v H rw hv hl hs=>Jlg Jft rfl l sep v H rw hv hl hs,p37:=rfl,p42:=rfl,f89:=r,f130:=r,f131:=r,f132:=r,f133:=r,f190:=r,f191:=r,f226:=r,f243:=r,f90:=r,f93:=r,f95:=r,f134:=r,f135:=r,f136:=r,f140:=r,f192:=r,f193:=r,f195:=r,f201:=r,f227:=r,f228:=r,f244:=r,f245:=r,f253:=r,f94:=r,f141:=r,f196:=r,f197:=r,f137:=r,f194:=r,f139:=r,f138:=r,f91:=r,f92:=r,f51:=r,f19:=r,f15:=r,f17:=r,f20:=r,f26:=r,f30:=r,f56:=r,f64:=r,f65:=r,f66:=r,f100:=r,f101:=r,f102:=r,f103:=r,f104:=r,f105:=r,f106:=r,f149:=r,f150:=r,f151:=r,f16:=r,f18:=r,f21:=r,f53:=r,f57:=r,f204:=r,f52:=r,f96:=r,f97:=r,f127:=r,f142:=r,f143:=r,f144:=r,f145:=r,f146:=r,f198:=r,f199:=r,f200:=r,f229:=r,f55:=r,f23:=r,f33:=r,f34:=r,f35:=r,f36:=r,f68:=r,f69:=r,f111:=r,f38:=r,f39:=r,f70:=r,f71:=r,f75:=r,f112:=r,f45:=r,f77:=r,f78:=r,f115:=r,f116:=r,f117:=r,f118:=r,f119:=r,f120:=r,f121:=r,f122:=r,f176:=r,f177:=r,f178:=r,f179:=r,f180:=r,f181:=r,f182:=r,f183:=r,f184:=r,f185:=r,f186:=r,f187:=r,f218:=r,f220:=r,f221:=r,f222:=r,f223:=r,f224:=r,f225:=r,f241:=r,f242:=r,f219:=r,f240:=r,f11:=r,f41:=r,f44:=r,f80:=r,f46:=r,f81:=r,f82:=r,f123:=r,f124:=r,f125:=r}
theorem JDK{F:Nat->Option IFn}(hF:∀ f fn,F f=some fn->∃ g,prog.funcs[f]? = some g/\JK prog g fn=true){f:Nat}{vs:List AV}{us:List Value}(hf:PrZ f=none)(h:Wp PrZ F f vs S0 JkQ)(ha:RepT K0 vs us)(w:World) :
  Calls prog f us.toArray w λe w'=>e=.returned (.bool true)/\RowKit.Below w.heap.size w w':=by
 obtain⟨n,r,S',h1,rfl⟩:=h;exact Jty JDJ (λf fn _ h=>hF f fn h) hf (Jiv Jft n _ _ _ _ h1) ha w
theorem tm_row(x:Jk){us:List Value}(ha:RepT K0 [.str x] us)(w:World):Calls prog 11 us.toArray w λe w'=>e=.returned (.bool true)/\RowKit.Below w.heap.size w w':=
 JDK JwA rfl (J5Y J1z (λ_=>JmH Jft (n:=1) rfl) x [] []) ha w
end Go.Proofs.YtmeakjgbjldkdaaGreat.Ai
namespace Go.Proofs.YtmeakjgbjldkdaaGreat
open Go.ChangeShapes Go.WideShapes Go.ChangeAt Go.RowKit
open Go.ChangeMaps (open_string shut_string)
theorem Tryz.own:ownKnob Tryz.prog.godebug=none:=Ai.Ae
theorem JVZ(s:ByteArray)(w:World):Calls Tryz.prog 11 #[.string s] w λe w'=>e=.returned (.bool true)/\Below w.heap.size w w':=by obtain⟨⟨l⟩⟩:=s;exact Ai.tm_row l (us:=[.string ⟨⟨l⟩⟩]) (by simp only[Ai.RepT,Ai.Rep];exact⟨_,_,rfl,rfl,rfl⟩) w
theorem JKS(os:Os)(started:os.Started)(H:Type)(enc:TypeId×Value->H) :
  ReturnsInHanded {} Tryz.checked os 11 .any (Rows.typingMoreSpec.pre6 enc Tryz.prog Tryz.f11 Rows.typingMoreRow.domain false) (Rows.typingMoreSpec.post enc Tryz.prog Tryz.f11 false true false false):=by
 refine returnsInHanded_of_change (C:=Tryz.checked) Tryz.own started Ai.Ae Tryz.func11
  (ChangeSpec.witness6 (enc:=enc) (C:=Tryz.checked) false ⟨#[],#[.string ⟨#[]⟩],[]⟩ 8 Ai.Ae Ai.Ae Ai.Ae Ai.Ae) ?_
 intro W base args ds gs before hval0 hW hcnd _;have hval:∀(j:Nat) t v,Tryz.f11.params[j]? = some t->args[j]? = some v->Value.okWide Tryz.prog W .any base t v:=hval0;have hW':=hW;obtain⟨p,q,hA0,hV,rfl,hfz,hnd⟩:=hW;have hA:DataW.TrodAll enc Tryz.prog W 0 (λ_=>true) true Tryz.f11.params.toList args.toList ds p:=hA0;rw[Tryz.params11]at hA hval;obtain⟨v0,d0,rfl,rfl,h0⟩:=trodAll_one hA;obtain⟨rfl,rfl⟩:=trodVars_none hV;obtain⟨s,rfl,rfl,rfl,hs⟩:=open_string Tryz.underlying9 (hval 0 9 v0 rfl rfl) h0;clear hA0 hval0;simp only[Ar]at hW';refine(JVZ s W).mono λe W' ⟨he,hb⟩=>?_;subst he;exact⟨_,rfl,_,_,_,[],[],[],hW',trodAll_mk1 (shut_bool Tryz.underlying4 true),trodAll_mk1 (shut_string Tryz.underlying9 hs),rfl,hb.frame _,λh=>Ai.EB⟩
theorem typingMore_holds:Rows.TypingMoreSaid:=
 OpenClaim.holds_of_wide 11 Tryz.f11 rfl rfl rfl rfl rfl rfl rfl ⟨rfl,rfl,rfl,rfl,rfl⟩ rfl rfl rfl rfl rfl Ai.Ae Tryz.func11 Ai.Ae
  (of_decide_eq_true Ai.Ae) (by unfold Func.isWrapper;first |(rw[if_pos (by decide +kernel)];kernel_rfl) |(rw[if_neg (by decide +kernel)];exact⟨rfl,rfl⟩))
  (λos started H enc _=>JKS os started H enc)
#print axioms typingMore_holds
end Go.Proofs.YtmeakjgbjldkdaaGreat
