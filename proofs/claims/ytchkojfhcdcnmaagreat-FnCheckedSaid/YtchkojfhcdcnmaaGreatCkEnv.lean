/- A text of its own: Env; no condition but those that each theorem names. -/
import Derived.Test.YtchkojfhcdcnmaaGreatCkEvWt
import Derived.Test.YtchkojfhcdcnmaaGreatCkEvLm
import Derived.Test.YtchkojfhcdcnmaaGreatProg
import Derived.KernelRfl
namespace Go.Proofs.YtchkojfhcdcnmaaGreatCk.Ev
open Go
noncomputable section
def fs:List Ty->Ty
  | []=> .nil
  | a::r=> .cons a (fs r)
abbrev ya:Ty:= .agg (fs [.bool,(.sl (.int .i64)),(.sl (.int .i64))])
abbrev yb:Ty:= .int .i64
abbrev yc:Ty:= .sl yb
abbrev yd:Ty:= .agg (fs [yb,yc,yc,(.sl ya)])
abbrev ye:Ty:= .agg (fs [yc])
abbrev yf:Ty:= .box (.agg (fs [(.sl (.int .u8)),yb,(.int .u64)]))
abbrev yg:Ty:= .own yb
abbrev yh:Ty:= .sl ya
abbrev yi:Ty:= .agg (fs [yb,yb,yb,yb,yb])
abbrev yj:Ty:=fs [.bool]
abbrev yk:Ty:= .agg (fs [.bool,yg,yg])
abbrev yl:Ty:= .box ye
abbrev ym:Ty:= .box (.agg (fs [yc,(.sl yh),yb,(.own yd),yg,yg]))
abbrev yn:Ty:= .own yc
abbrev yo:Ty:= .sl yc
abbrev yp:Ty:= .own ya
abbrev yq:Ty:= .agg (fs [yb,yo])
abbrev yr:Ty:= .sl yh
abbrev ys:Ty:= .box (.agg (fs [yb,yn]))
abbrev yt:Ty:= .sl yd
abbrev yu:Ty:= .box (.agg (fs [yg]))
abbrev yv:Ty:=fs [(.ptr ye)]
abbrev yw:Ty:= .agg (fs [yb,(.own yd),yg])
abbrev yx:Ty:= .own yi
abbrev yy:Ty:= .ptr yc
abbrev yz:Ty:= .box (.agg (fs [yc,yr,yb,(.own yd),.opq,yg]))
abbrev yA:Ty:= .own yh
abbrev yB:Ty:= .own yk
abbrev yC:Ty:= .box (.agg (fs [ye,yr,(.agg (fs [yb,(.own yd),.opq])),yg]))
abbrev yD:Ty:=fs [yl,(.box yi),yc,yc,yc,yc,yo,yp,yp,yp,yb,yb]
abbrev zdz:LoopH:= {key:=52,ht:= [0,1,7,8],hτ:=(fs [yc,(.fn 130 (fs [])),yb,yb]),ex:=0,ot:= [],oτ:=(fs [])}
abbrev zny:LoopH:= {key:=244,ht:= [2,5,11,12,13],hτ:=(fs [yl,yb,yc,yb,yb]),ex:=0,ot:= [5],oτ:=(fs [yb])}
abbrev zbK:LoopH:= {key:=52,ht:= [0,1,7,8],hτ:=(fs [yh,(.fn 147 yv),yb,yb]),ex:=0,ot:= [],oτ:=(fs [])}
abbrev zbw:LoopH:= {key:=52,ht:= [0,1,7,8],hτ:=(fs [yr,(.fn 131 yv),yb,yb]),ex:=0,ot:= [],oτ:=(fs [])}
abbrev zee:LoopH:= {key:=52,ht:= [0,1,7,8],hτ:=(fs [yc,(.fn 155 (fs [(.ptr yt)])),yb,yb]),ex:=0,ot:= [],oτ:=(fs [])}
abbrev zrP:LoopH:= {key:=116,ht:= [3,6,7,8],hτ:=(fs [yn,yh,yb,yb]),ex:=0,ot:= [3],oτ:=(fs [yn])}
abbrev znv:LoopH:= {key:=116,ht:= [1,5,8,9,10],hτ:=(fs [(.sl .opq),(.own (.agg (fs [.bool,.opq,.opq]))),yh,yb,yb]),ex:=0,ot:= [5],oτ:=(fs [(.own (.agg (fs [.bool,.opq,.opq])))])}
abbrev zru:LoopH:= {key:=244,ht:= [3,4,15,16,17],hτ:=(fs [(.map yb),(.own yg),yo,yb,yb]),ex:=0,ot:= [4],oτ:=(fs [(.own yg)])}
abbrev zqi:LoopH:= {key:=125340,ht:= [3,4,5,15,16,17,27,28,29],hτ:=(fs [(.map yb),(.own yg),yb,yo,yb,yb,yc,yb,yb]),ex:=2,ot:= [3,4,15,16,17],oτ:=(fs [(.map yb),(.own yg),yo,yb,yb])}
abbrev zl3:LoopH:= {key:=116,ht:= [0,1,12,13],hτ:=(fs [yc,yc,yb,yb]),ex:=0,ot:= [],oτ:=(fs [])}
abbrev zcB:LoopH:= {key:=52,ht:= [0,1,7,8],hτ:=(fs [yh,(.fn 288 (fs [(.ptr ya)])),yb,yb]),ex:=0,ot:= [],oτ:=(fs [])}
abbrev zuB:LoopH:= {key:=116,ht:= [3,6,7,8],hτ:=(fs [yp,yh,yb,yb]),ex:=0,ot:= [3],oτ:=(fs [yp])}
abbrev zqy:LoopH:= {key:=52,ht:= [1,2,3,7],hτ:=(fs [yc,yb,yl,yb]),ex:=0,ot:= [2],oτ:=(fs [yb])}
abbrev zk9:LoopH:= {key:=116,ht:= [0,3,9,10,11],hτ:=(fs [yo,yb,yo,yb,yb]),ex:=0,ot:= [0,3],oτ:=(fs [yo,yb])}
abbrev zkD:LoopH:= {key:=500,ht:= [6,25,26,27],hτ:=(fs [yg,yo,yb,yb]),ex:=2,ot:= [6],oτ:=(fs [yg])}
abbrev zuH:LoopH:= {key:=52,ht:= [0,6,7],hτ:=(fs [yn,yb,yb]),ex:=0,ot:= [0],oτ:=(fs [yn]),hal:= [(5,0)]}
abbrev zlX:LoopH:= {key:=52,ht:= [0,1,7,8],hτ:=(fs [yc,yb,yb,yb]),ex:=0,ot:= [],oτ:=(fs [])}
abbrev ztH:LoopH:= {key:=116,ht:= [0,6,9,10,11],hτ:=(fs [yo,yg,yc,yb,yb]),ex:=0,ot:= [6],oτ:=(fs [yg])}
abbrev zn5:LoopH:= {key:=244,ht:= [1,3,4,10,18,19,20],hτ:=(fs [yn,yc,yl,yb,yc,yb,yb]),ex:=0,ot:= [1,3,10],oτ:=(fs [yn,yc,yb])}
abbrev ztW:LoopH:= {key:=116,ht:= [1,5,8,9,10],hτ:=(fs [yb,yb,yc,yb,yb]),ex:=0,ot:= [5],oτ:=(fs [yb])}
abbrev zo9:LoopH:= {key:=52,ht:= [0,1,6],hτ:=(fs [yc,yc,yb]),ex:=0,ot:= [],oτ:=(fs [])}
abbrev zpf:LoopH:= {key:=244,ht:= [1,23,24,25],hτ:=(fs [yc,yc,yb,yb]),ex:=0,ot:= [],oτ:=(fs [])}
abbrev znc:LoopH:= {key:=1012,ht:= [1,12,41,42],hτ:=(fs [yc,yg,yb,yb]),ex:=0,ot:= [12],oτ:=(fs [yg]),hal:= [(40,12)]}
abbrev zp5:LoopH:= {key:=52,ht:= [1,2,3,10],hτ:=(fs [yc,yh,yl,yb]),ex:=0,ot:= [],oτ:=(fs [])}
abbrev zn0:LoopH:= {key:=6732,ht:= [1,2,3,10,11,30,31,32],hτ:=(fs [yc,yh,yl,yb,yg,yh,yb,yb]),ex:=2,ot:= [1,2,3,10],oτ:=(fs [yc,yh,yl,yb])}
abbrev zmM:LoopH:= {key:=1723596,ht:= [1,2,3,10,11,12,13,30,31,32,37],hτ:=(fs [yc,yh,yl,yb,yg,yb,(.box ya),yh,yb,yb,yb]),ex:=4,ot:= [1,2,3,10,11,30,31,32],oτ:=(fs [yc,yh,yl,yb,yg,yh,yb,yb])}
abbrev zog:LoopH:= {key:=60,ht:= [1,2,3,8],hτ:=(fs [yg,yh,yl,yb]),ex:=999,ot:= [],oτ:=(fs [])}
abbrev zj9:LoopH:= {key:=244,ht:= [1,2,3,8,9,16,17],hτ:=(fs [yh,yh,yl,(.own (.mv yb)),yb,yb,yb]),ex:=0,ot:= [1,8,9],oτ:=(fs [yh,(.own (.mv yb)),yb]),hal:= [(15,8)]}
abbrev zds:LoopH:= {key:=52,ht:= [0,1,7,8],hτ:=(fs [yo,(.fn 209 (fs [(.ptr yb)])),yb,yb]),ex:=0,ot:= [],oτ:=(fs [])}
abbrev zta:LoopH:= {key:=116,ht:= [0,3,5],hτ:=(fs [yo,yg,yb]),ex:=0,ot:= [3],oτ:=(fs [yg])}
abbrev ztT:LoopH:= {key:=116,ht:= [1,5,11,12],hτ:=(fs [yb,yg,yb,yb]),ex:=0,ot:= [5],oτ:=(fs [yg]),hal:= [(10,5)]}
abbrev zcm:LoopH:= {key:=52,ht:= [0,1,7,8],hτ:=(fs [yo,(.fn 315 yv),yb,yb]),ex:=0,ot:= [],oτ:=(fs [])}
abbrev zom:LoopH:= {key:=500,ht:= [2,3,8,10,29,30],hτ:=(fs [yh,yl,yb,(.own (.mv yb)),yb,yb]),ex:=0,ot:= [2,3,10],oτ:=(fs [yh,yl,(.own (.mv yb))]),hal:= [(28,10)]}
abbrev zpp:LoopH:= {key:=28,ht:= [1,2,3,8],hτ:=(fs [yc,yc,yl,yn]),ex:=999,ot:= [],oτ:=(fs [])}
abbrev zn4:LoopH:= {key:=904,ht:= [1,2,3,8,9],hτ:=(fs [yc,yc,yl,yn,yb]),ex:=2,ot:= [1,2,3,8,9],oτ:=(fs [yc,yc,yl,yn,yb])}
abbrev zlW:LoopH:= {key:=3735540,ht:= [1,2,3,8,10,11,12,147,148],hτ:=(fs [yg,yg,yl,yn,yb,yc,yn,yb,yb]),ex:=5,ot:= [1,2,3,8,10,11],oτ:=(fs [yg,yg,yl,yn,yb,yc]),hal:= [(146,8)]}
abbrev zoj:LoopH:= {key:=116,ht:= [0,1,6,13,14],hτ:=(fs [yo,yh,(.own (.mv yb)),yb,yb]),ex:=0,ot:= [1,6],oτ:=(fs [yh,(.own (.mv yb))]),hal:= [(12,6)]}
abbrev zgl:LoopH:= {key:=116,ht:= [0,3,9,10,11],hτ:=(fs [yr,yb,yr,yb,yb]),ex:=0,ot:= [0,3],oτ:=(fs [yr,yb])}
abbrev zf1:LoopH:= {key:=500,ht:= [6,25,26,27],hτ:=(fs [yp,yr,yb,yb]),ex:=2,ot:= [6],oτ:=(fs [yp])}
abbrev zcP:LoopH:= {key:=52,ht:= [0,1,7,8],hτ:=(fs [yo,(.fn 333 (fs [yy])),yb,yb]),ex:=0,ot:= [],oτ:=(fs [])}
abbrev zpE:LoopH:= {key:=52,ht:= [0,7,8,9],hτ:=(fs [yo,yo,yb,yb]),ex:=0,ot:= [0],oτ:=(fs [yo])}
abbrev zcn:LoopH:= {key:=52,ht:= [0,1,7,8],hτ:=(fs [yo,(.fn 327 (fs [yy])),yb,yb]),ex:=0,ot:= [],oτ:=(fs [])}
abbrev zmP:LoopH:= {key:=244,ht:= [5,6,12,13,14],hτ:=(fs [yn,yn,yo,yb,yb]),ex:=0,ot:= [5,6],oτ:=(fs [yn,yn])}
abbrev zpS:LoopH:= {key:=52,ht:= [0,1,7,8,9],hτ:=(fs [yh,yb,yh,yb,yb]),ex:=0,ot:= [],oτ:=(fs [])}
abbrev zmC:LoopH:= {key:=8060852,ht:= [6,10,14,16,17],hτ:=(fs [yl,yy,(.fn 184 (fs [(.ptr yt),yy])),yp,yb]),ex:=1,ot:= [6,14,16],oτ:=(fs [yl,(.fn 184 (fs [(.ptr yt),yy])),yp])}
abbrev zaQ:LoopH:= {key:=116,ht:= [1,2,15,16,17],hτ:=(fs [yh,(.fn 192 (fs [])),yh,yb,yb]),ex:=0,ot:= [],oτ:=(fs [])}
abbrev znX:LoopH:= {key:=244,ht:= [1,2,3,24,25,26],hτ:=(fs [yr,yt,yl,yt,yb,yb]),ex:=0,ot:= [],oτ:=(fs [])}
abbrev zqM:LoopH:= {key:=116,ht:= [3,6,7,8],hτ:=(fs [yb,(.sl (.int .u8)),yb,yb]),ex:=0,ot:= [3],oτ:=(fs [yb])}
abbrev zqB:LoopH:= {key:=244,ht:= [4,5,6,21,22,23],hτ:=(fs [ys,(.int .u64),ys,yc,yb,yb]),ex:=0,ot:= [4,6],oτ:=(fs [ys,ys])}
abbrev zph:LoopH:= {key:=125336,ht:= [4,5,6,8,9,21,22,23],hτ:=(fs [ys,(.int .u64),ys,yb,yb,yc,yb,yb]),ex:=2,ot:= [4,5,6,9,21,22,23],oτ:=(fs [ys,(.int .u64),ys,yb,yc,yb,yb])}
abbrev zoe:LoopH:= {key:=501368,ht:= [4,5,6,9,10,21,22,23],hτ:=(fs [ys,(.int .u64),ys,yb,yg,yc,yb,yb]),ex:=4,ot:= [4,5,6,10,21,22,23],oτ:=(fs [ys,(.int .u64),ys,yg,yc,yb,yb])}
abbrev zr3:LoopH:= {key:=116,ht:= [0,5,6,7],hτ:=(fs [yb,yb,yb,yb]),ex:=0,ot:= [5],oτ:=(fs [yb])}
abbrev zc1:LoopH:= {key:=52,ht:= [0,1,7,8],hτ:=(fs [yc,(.fn 265 (fs [(.ptr yb)])),yb,yb]),ex:=0,ot:= [],oτ:=(fs [])}
abbrev znB:LoopH:= {key:=116,ht:= [2,3,21,22,23],hτ:=(fs [yl,(.box yq),yo,yb,yb]),ex:=0,ot:= [],oτ:=(fs [])}
abbrev zpu:LoopH:= {key:=500,ht:= [2,4,5,6,12,13,14,33,34],hτ:=(fs [yc,yc,yl,(.box yq),yb,yb,yb,yb,yb]),ex:=0,ot:= [6,12,13,14],oτ:=(fs [(.box yq),yb,yb,yb])}
abbrev zbQ:LoopH:= {key:=52,ht:= [0,1,7,8],hτ:=(fs [yh,(.fn 211 (fs [(.ptr ye),(.ptr yq),yy])),yb,yb]),ex:=0,ot:= [],oτ:=(fs [])}
abbrev znz:LoopH:= {key:=60,ht:= [2,3,4,8,9],hτ:=(fs [yh,yl,(.box yq),yg,yg]),ex:=999,ot:= [],oτ:=(fs [])}
abbrev zmo:LoopH:= {key:=3864,ht:= [2,3,4,8,9,10],hτ:=(fs [yh,yl,(.box yq),yg,yg,yb]),ex:=2,ot:= [2,3,4,8,9,10],oτ:=(fs [yh,yl,(.box yq),yg,yg,yb])}
abbrev zr4:LoopH:= {key:=116,ht:= [3,4,8,13,14,15],hτ:=(fs [yl,(.box yq),.bool,yr,yb,yb]),ex:=0,ot:= [8],oτ:=yj}
abbrev ztC:LoopH:= {key:=56,ht:= [1,2,3,7],hτ:=(fs [yc,yb,yl,yb]),ex:=0,ot:= [2],oτ:=(fs [yb])}
abbrev zqv:LoopH:= {key:=52,ht:= [1,2,7,8,9],hτ:=(fs [yh,yl,yh,yb,yb]),ex:=0,ot:= [1],oτ:=(fs [yh])}
abbrev zul:LoopH:= {key:=52,ht:= [1,2,9,10,11],hτ:=(fs [yb,yb,yc,yb,yb]),ex:=0,ot:= [],oτ:=(fs [])}
abbrev zqK:LoopH:= {key:=52,ht:= [1,2,7,8,9],hτ:=(fs [yr,yl,yr,yb,yb]),ex:=0,ot:= [1,2],oτ:=(fs [yr,yl])}
abbrev ztx:LoopH:= {key:=52,ht:= [1,7,8,9],hτ:=(fs [yb,yc,yb,yb]),ex:=0,ot:= [],oτ:=(fs [])}
abbrev zqe:LoopH:= {key:=244,ht:= [3,4,12,13,14],hτ:=(fs [yg,yn,yo,yb,yb]),ex:=0,ot:= [4],oτ:=(fs [yn])}
abbrev znw:LoopH:= {key:=250676,ht:= [3,4,7,12,13,14,18,19,20],hτ:=(fs [yg,yn,yg,yo,yb,yb,yc,yb,yb]),ex:=2,ot:= [3,4,7,12,13,14],oτ:=(fs [yg,yn,yg,yo,yb,yb])}
abbrev zl1:LoopH:= {key:=256693044,ht:= [3,4,7,9,12,13,14,18,19,20,37,38],hτ:=(fs [yg,yn,yg,yb,yo,yb,yb,yc,yb,yb,yb,yb]),ex:=4,ot:= [3,4,7,9,12,13,14,18,19,20],oτ:=(fs [yg,yn,yg,yb,yo,yb,yb,yc,yb,yb]),hal:= [(36,3)]}
abbrev zrI:LoopH:= {key:=116,ht:= [3,6,7,8],hτ:=(fs [yn,yh,yb,yb]),ex:=0,ot:= [3],oτ:=(fs [yn])}
abbrev zqk:LoopH:= {key:=244,ht:= [3,4,10,11,12],hτ:=(fs [yn,yp,yh,yb,yb]),ex:=0,ot:= [4],oτ:=(fs [yp])}
abbrev zui:LoopH:= {key:=116,ht:= [3,6,7,8],hτ:=(fs [yB,yh,yb,yb]),ex:=0,ot:= [3],oτ:=(fs [yB])}
abbrev zsS:LoopH:= {key:=116,ht:= [0,1,12,13],hτ:=(fs [yc,yc,yb,yb]),ex:=0,ot:= [],oτ:=(fs [])}
abbrev zs9:LoopH:= {key:=116,ht:= [3,9,10,11],hτ:=(fs [yp,yh,yb,yb]),ex:=0,ot:= [3],oτ:=(fs [yp])}
abbrev zps:LoopH:= {key:=239220,ht:= [3,5,6,9,10,11,26,27],hτ:=(fs [yp,(.box ya),.bool,yh,yb,yb,yb,yb]),ex:=2,ot:= [3,5,6,9,10,11],oτ:=(fs [yp,(.box ya),.bool,yh,yb,yb]),hal:= [(25,3)]}
abbrev zsb:LoopH:= {key:=116,ht:= [0,5,8,9,10],hτ:=(fs [yo,yg,yc,yb,yb]),ex:=0,ot:= [5],oτ:=(fs [yg])}
abbrev zrA:LoopH:= {key:=116,ht:= [0,5,8,9,10],hτ:=(fs [yo,yp,yh,yb,yb]),ex:=0,ot:= [5],oτ:=(fs [yp])}
abbrev zuk:LoopH:= {key:=56,ht:= [0,1,5],hτ:=(fs [yg,yb,yb]),ex:=0,ot:= [0,1,5],oτ:=(fs [yg,yb,yb])}
abbrev zs5:LoopH:= {key:=116,ht:= [3,6,7,8],hτ:=(fs [yg,yc,yb,yb]),ex:=0,ot:= [3],oτ:=(fs [yg])}
abbrev zsX:LoopH:= {key:=116,ht:= [3,8,9,10],hτ:=(fs [yg,yh,yb,yb]),ex:=0,ot:= [3],oτ:=(fs [yg])}
abbrev zqp:LoopH:= {key:=29900,ht:= [3,8,9,10,20,21,22],hτ:=(fs [yg,yh,yb,yb,yg,yb,yb]),ex:=2,ot:= [3,8,9,10],oτ:=(fs [yg,yh,yb,yb])}
abbrev zrE:LoopH:= {key:=116,ht:= [1,5,11,12],hτ:=(fs [yb,yg,yb,yb]),ex:=0,ot:= [5],oτ:=(fs [yg]),hal:= [(10,5)]}
abbrev zqJ:LoopH:= {key:=244,ht:= [3,8,9,14,15,16],hτ:=(fs [yl,yb,yp,yh,yb,yb]),ex:=0,ot:= [3,9],oτ:=(fs [yl,yp])}
abbrev zrK:LoopH:= {key:=52,ht:= [2,3,4,11,12,13],hτ:=(fs [yc,yc,yl,yo,yb,yb]),ex:=0,ot:= [2,3,4],oτ:=(fs [yc,yc,yl])}
abbrev zr5:LoopH:= {key:=500,ht:= [0,1,2,7,8,17,18],hτ:=(fs [yo,yb,yc,yn,yn,yb,yb]),ex:=0,ot:= [1,2,8],oτ:=(fs [yb,yc,yn])}
abbrev zrV:LoopH:= {key:=60,ht:= [1,2,3,8,9,10],hτ:=(fs [yc,yc,yl,yn,yg,yg]),ex:=999,ot:= [],oτ:=(fs [])}
abbrev zpX:LoopH:= {key:=3864,ht:= [1,2,3,8,9,10,11],hτ:=(fs [yc,yc,yl,yn,yg,yg,yb]),ex:=2,ot:= [1,2,3,8,9,10,11],oτ:=(fs [yc,yc,yl,yn,yg,yg,yb])}
abbrev zr6:LoopH:= {key:=116,ht:= [1,5,8,9,10],hτ:=(fs [yb,yb,yc,yb,yb]),ex:=0,ot:= [5],oτ:=(fs [yb])}
abbrev zqN:LoopH:= {key:=52,ht:= [0,1,8,9,10],hτ:=(fs [yc,yc,yg,yb,yb]),ex:=0,ot:= [],oτ:=(fs [])}
abbrev zo3:LoopH:= {key:=244,ht:= [0,1,23,24],hτ:=(fs [yc,yc,yb,yb]),ex:=0,ot:= [],oτ:=(fs [])}
abbrev zrL:LoopH:= {key:=244,ht:= [5,6,16,17,18],hτ:=(fs [yn,yn,yo,yb,yb]),ex:=0,ot:= [6],oτ:=(fs [yn])}
abbrev zpk:LoopH:= {key:=250676,ht:= [5,6,8,9,16,17,18,23,24],hτ:=(fs [yn,yn,yc,yb,yo,yb,yb,yb,yb]),ex:=2,ot:= [5,6,8,9,16,17,18],oτ:=(fs [yn,yn,yc,yb,yo,yb,yb]),hal:= [(22,5)]}
abbrev zs8:LoopH:= {key:=52,ht:= [0,10,11,12],hτ:=(fs [yo,yo,yb,yb]),ex:=0,ot:= [0],oτ:=(fs [yo])}
abbrev zpR:LoopH:= {key:=54068,ht:= [0,6,7,10,11,12,16,17,18],hτ:=(fs [yo,yc,.bool,yo,yb,yb,yo,yb,yb]),ex:=2,ot:= [0,7,10,11,12],oτ:=(fs [yo,.bool,yo,yb,yb])}
abbrev zp9:LoopH:= {key:=52,ht:= [0,1,7,8,9],hτ:=(fs [yh,yb,yh,yb,yb]),ex:=0,ot:= [],oτ:=(fs [])}
abbrev zob:LoopH:= {key:=262132,ht:= [4,7,10,14,15,16,17,18,19,20,128,129],hτ:=yD,ex:=0,ot:= [4,7,10,14,15,16,17,18,19,20],oτ:=(fs [yl,(.box yi),yc,yc,yc,yc,yo,yp,yp,yp]),hal:= [(127,18)]}
abbrev zoo:LoopH:= {key:=524276,ht:= [4,7,10,14,15,16,17,18,19,20,144,145],hτ:=yD,ex:=2,ot:= [4,7,10,14,15,16,17,18,19,20],oτ:=(fs [yl,(.box yi),yc,yc,yc,yc,yo,yp,yp,yp]),hal:= [(143,19)]}
abbrev zrD:LoopH:= {key:=56,ht:= [1,2,3,4,10,11],hτ:=(fs [yn,yc,yc,yl,yb,yb]),ex:=0,ot:= [1],oτ:=(fs [yn])}
abbrev ztZ:LoopH:= {key:=500,ht:= [1,12,29,30,31],hτ:=(fs [yc,yg,yg,yb,yb]),ex:=0,ot:= [1,12],oτ:=(fs [yc,yg])}
abbrev zs6:LoopH:= {key:=52,ht:= [1,2,3,10],hτ:=(fs [yc,yh,yl,yb]),ex:=0,ot:= [],oτ:=(fs [])}
abbrev zqD:LoopH:= {key:=6732,ht:= [1,2,3,10,11,30,31,32],hτ:=(fs [yc,yh,yl,yb,yg,yh,yb,yb]),ex:=2,ot:= [1,2,3,10],oτ:=(fs [yc,yh,yl,yb])}
abbrev zo5:LoopH:= {key:=1723596,ht:= [1,2,3,10,11,12,13,14,30,31,32],hτ:=(fs [yc,yh,yl,yb,yg,yb,(.box ya),yb,yh,yb,yb]),ex:=4,ot:= [1,2,3,10,11,30,31,32],oτ:=(fs [yc,yh,yl,yb,yg,yh,yb,yb])}
abbrev zqL:LoopH:= {key:=60,ht:= [2,3,8,9],hτ:=(fs [yh,yl,yg,yb]),ex:=999,ot:= [],oτ:=(fs [])}
abbrev zpC:LoopH:= {key:=244,ht:= [2,3,8,9,16,17,18],hτ:=(fs [yh,yl,yp,yb,yh,yb,yb]),ex:=0,ot:= [8,9],oτ:=(fs [yp,yb])}
abbrev zsW:LoopH:= {key:=116,ht:= [1,2,3,5,6,14,28,29,30],hτ:=(fs [yr,yt,yb,yc,yl,yA,yc,yb,yb]),ex:=0,ot:= [1,3,5,6,14],oτ:=(fs [yr,yb,yc,yl,yA])}
abbrev zok:LoopH:= {key:=8290260,ht:= [6,14,25,196,197,198],hτ:=(fs [yl,yr,yp,yr,yb,yb]),ex:=3,ot:= [6,14,25],oτ:=(fs [yl,yr,yp])}
abbrev zqE:LoopH:= {key:=116,ht:= [3,6,7,8],hτ:=(fs [yb,yh,yb,yb]),ex:=0,ot:= [3],oτ:=(fs [yb])}
abbrev zp2:LoopH:= {key:=244,ht:= [0,7,17,18,19],hτ:=(fs [yt,yb,yc,yb,yb]),ex:=0,ot:= [7],oτ:=(fs [yb])}
abbrev zs3:LoopH:= {key:=116,ht:= [1,5,8,9,10],hτ:=(fs [yb,yg,yc,yb,yb]),ex:=0,ot:= [5],oτ:=(fs [yg])}
abbrev zn2:LoopH:= {key:=52,ht:= [0,7,8,9],hτ:=(fs [yh,yh,yb,yb]),ex:=0,ot:= [],oτ:=(fs [])}
abbrev zmm:LoopH:= {key:=27036,ht:= [0,4,7,8,9,25,26,27],hτ:=(fs [yh,(.box ya),yh,yb,yb,yh,yb,yb]),ex:=2,ot:= [0,7,8,9],oτ:=(fs [yh,yh,yb,yb])}
abbrev zs0:LoopH:= {key:=116,ht:= [3,6,7,8],hτ:=(fs [yn,yo,yb,yb]),ex:=0,ot:= [3],oτ:=(fs [yn])}
abbrev zpb:LoopH:= {key:=116,ht:= [1,2,3,4,5,26,27,28],hτ:=(fs [yh,yh,yb,yo,yl,yh,yb,yb]),ex:=0,ot:= [],oτ:=(fs [])}
abbrev zmX:LoopH:= {key:=29900,ht:= [1,2,3,4,5,13,14,26,27,28],hτ:=(fs [yh,yh,yb,yo,yl,(.box ya),yb,yh,yb,yb]),ex:=2,ot:= [1,2,3,4,5,26,27,28],oτ:=(fs [yh,yh,yb,yo,yl,yh,yb,yb])}
abbrev ztb:LoopH:= {key:=500,ht:= [8,33,34],hτ:=(fs [yn,yb,yb]),ex:=0,ot:= [8],oτ:=(fs [yn])}
abbrev znZ:LoopH:= {key:=116,ht:= [1,3,13,14,15],hτ:=(fs [yh,yl,yr,yb,yb]),ex:=0,ot:= [],oτ:=(fs [])}
abbrev zrO:LoopH:= {key:=116,ht:= [0,5,8,9,10],hτ:=(fs [yt,yg,yc,yb,yb]),ex:=0,ot:= [5],oτ:=(fs [yg])}
abbrev zqb:LoopH:= {key:=116,ht:= [1,2,3,5,6,14,28,29,30],hτ:=(fs [yr,(.own yd),yb,yc,yl,yA,yc,yb,yb]),ex:=0,ot:= [1,2,3,5,6,14],oτ:=(fs [yr,(.own yd),yb,yc,yl,yA])}
abbrev zml:LoopH:= {key:=8290260,ht:= [2,6,14,25,196,197,198],hτ:=(fs [(.own yd),yl,yr,yp,yr,yb,yb]),ex:=3,ot:= [2,6,14,25],oτ:=(fs [(.own yd),yl,yr,yp])}
abbrev zl0:LoopH:= {key:=244,ht:= [0,1,5,6,25,26],hτ:=(fs [ym,yb,yg,yp,yb,yb]),ex:=0,ot:= [0,1,5,6],oτ:=(fs [ym,yb,yg,yp]),hal:= [(24,5)]}
abbrev zpN:LoopH:= {key:=244,ht:= [1,2,6,7,18,19],hτ:=(fs [yh,yl,yg,yx,yb,yb]),ex:=0,ot:= [6,7],oτ:=(fs [yg,yx])}
abbrev zn8:LoopH:= {key:=125340,ht:= [1,2,6,7,8,11,18,19],hτ:=(fs [yh,yl,yg,yx,yb,yb,yb,yb]),ex:=2,ot:= [1,2,6,7,18,19],oτ:=(fs [yh,yl,yg,yx,yb,yb])}
abbrev zm2:LoopH:= {key:=8021796,ht:= [1,2,6,7,8,11,18,19,40,41],hτ:=(fs [yh,yl,yg,yx,yb,yb,yb,yb,yb,yb]),ex:=4,ot:= [1,2,6,7,8,11,18,19],oτ:=(fs [yh,yl,yg,yx,yb,yb,yb,yb])}
abbrev zk6:LoopH:= {key:=2053579980,ht:= [1,2,6,7,8,11,12,13,18,19,40,41],hτ:=(fs [yh,yl,yg,yx,yb,yb,yb,yb,yb,yb,yb,yb]),ex:=6,ot:= [1,2,6,7,8,11,18,19,40,41],oτ:=(fs [yh,yl,yg,yx,yb,yb,yb,yb,yb,yb])}
abbrev zr8:LoopH:= {key:=500,ht:= [5,6,18,19],hτ:=(fs [yp,yp,yb,yb]),ex:=0,ot:= [],oτ:=(fs [])}
abbrev zmA:LoopH:= {key:=244,ht:= [0,9,41,42],hτ:=(fs [yz,(.box (.agg (fs [yb,yg,yg,yp]))),yb,yb]),ex:=0,ot:= [0,9],oτ:=(fs [yz,(.box (.agg (fs [yb,yg,yg,yp])))]),hal:= [(40,262144)]}
abbrev zs1:LoopH:= {key:=116,ht:= [1,2,3,7,20,21],hτ:=(fs [yh,yh,yl,yx,yb,yb]),ex:=0,ot:= [7],oτ:=(fs [yx])}
abbrev zpD:LoopH:= {key:=29900,ht:= [1,2,3,7,8,9,20,21],hτ:=(fs [yh,yh,yl,yx,yb,yb,yb,yb]),ex:=2,ot:= [1,2,3,7,20,21],oτ:=(fs [yh,yh,yl,yx,yb,yb])}
abbrev zpa:LoopH:= {key:=1913636,ht:= [1,2,3,7,8,9,20,21,28,29,30],hτ:=(fs [yh,yh,yl,yx,yb,yb,yb,yb,yh,yb,yb]),ex:=4,ot:= [1,2,3,7,8,9,20,21],oτ:=(fs [yh,yh,yl,yx,yb,yb,yb,yb])}
abbrev zmL:LoopH:= {key:=489891020,ht:= [1,2,3,7,8,9,10,11,12,20,21,28,29,30],hτ:=(fs [yh,yh,yl,yx,yb,yb,yb,(.box ya),yb,yb,yb,yh,yb,yb]),ex:=6,ot:= [1,2,3,7,8,9,20,21,28,29,30],oτ:=(fs [yh,yh,yl,yx,yb,yb,yb,yb,yh,yb,yb])}
abbrev zl2:LoopH:= {key:=62706050636,ht:= [1,2,3,7,8,9,10,11,12,20,21,28,29,30,46,47],hτ:=(fs [yh,yh,yl,yx,yb,yb,yb,(.box ya),yb,yb,yb,yh,yb,yb,yb,yb]),ex:=8,ot:= [1,2,3,7,8,9,10,11,12,20,21,28,29,30],oτ:=(fs [yh,yh,yl,yx,yb,yb,yb,(.box ya),yb,yb,yb,yh,yb,yb])}
abbrev zo6:LoopH:= {key:=52,ht:= [0,1,2,31,32,33],hτ:=(fs [yz,yb,yb,yx,yb,yb]),ex:=0,ot:= [0],oτ:=(fs [yz])}
abbrev zpq:LoopH:= {key:=116,ht:= [0,1,6,30,31,32],hτ:=(fs [ym,yb,yx,yg,yb,yb]),ex:=0,ot:= [0,1,6],oτ:=(fs [ym,yb,yx])}
abbrev zol:LoopH:= {key:=244,ht:= [0,1,44,45,46],hτ:=(fs [ym,yb,yx,yb,yb]),ex:=2,ot:= [0,1],oτ:=(fs [ym,yb])}
abbrev zn9:LoopH:= {key:=1012,ht:= [0,1,82,83],hτ:=(fs [ym,yb,yb,yb]),ex:=4,ot:= [0],oτ:=(fs [ym]),hal:= [(81,327680)]}
abbrev zmp:LoopH:= {key:=2036,ht:= [0,1,5,6,35,36],hτ:=(fs [ym,yb,yh,yA,yb,yb]),ex:=0,ot:= [0,1,5,6],oτ:=(fs [ym,yb,yh,yA]),hal:= [(34,327680)]}
abbrev zrQ:LoopH:= {key:=116,ht:= [1,2,3,6,7,18,19],hτ:=(fs [yr,yb,yl,(.box yw),ym,yb,yb]),ex:=0,ot:= [2,6,7],oτ:=(fs [yb,(.box yw),ym])}
abbrev zsd:LoopH:= {key:=124,ht:= [2,6,7,11],hτ:=(fs [yb,(.box yw),ym,yb]),ex:=999,ot:= [],oτ:=(fs [])}
abbrev znD:LoopH:= {key:=4084,ht:= [0,2,3,5,10,11],hτ:=(fs [yf,yb,yb,yl,yg,yb]),ex:=0,ot:= [0,10],oτ:=(fs [yf,yg])}
abbrev znx:LoopH:= {key:=116,ht:= [0,3,5,6],hτ:=(fs [yf,yl,yp,yb]),ex:=0,ot:= [0,3,5],oτ:=(fs [yf,yl,yp])}
abbrev zmw:LoopH:= {key:=8104,ht:= [0,3,5],hτ:=(fs [yf,yl,yp]),ex:=3,ot:= [0,5],oτ:=(fs [yf,yp])}
abbrev zmN:LoopH:= {key:=116,ht:= [0,4,7,8],hτ:=(fs [yf,yl,yA,yb]),ex:=0,ot:= [0,7],oτ:=(fs [yf,yA])}
abbrev zmq:LoopH:= {key:=500,ht:= [0,2,4,5,6],hτ:=(fs [yf,yu,yu,yA,yb]),ex:=0,ot:= [0,2,4,5],oτ:=(fs [yf,yu,yu,yA])}
abbrev zk7:LoopH:= {key:=128148,ht:= [0,2,4,5,6,7,8],hτ:=(fs [yf,yu,yu,yA,yb,yp,yb]),ex:=2,ot:= [0,2,4,5,6,7],oτ:=(fs [yf,yu,yu,yA,yb,yp])}
abbrev ztF:LoopH:= {key:=116,ht:= [3,6,7,8],hτ:=(fs [(.own (.agg (fs [yb,yg,yg,yB]))),yt,yb,yb]),ex:=0,ot:= [3],oτ:=(fs [(.own (.agg (fs [yb,yg,yg,yB])))])}
abbrev zpc:LoopH:= {key:=116,ht:= [0,1,12,13],hτ:=(fs [yh,yh,yb,yb]),ex:=0,ot:= [],oτ:=(fs [])}
abbrev zrS:LoopH:= {key:=116,ht:= [1,2,3,14,15],hτ:=(fs [yr,yt,yl,yb,yb]),ex:=0,ot:= [],oτ:=(fs [])}
abbrev zbB:LoopH:= {key:=52,ht:= [0,1,7,8],hτ:=(fs [yt,(.fn 154 yv),yb,yb]),ex:=0,ot:= [],oτ:=(fs [])}
abbrev zpV:LoopH:= {key:=116,ht:= [1,16,17,18],hτ:=(fs [yt,yt,yb,yb]),ex:=0,ot:= [],oτ:=(fs [])}
abbrev zbR:LoopH:= {key:=52,ht:= [0,1,7,8],hτ:=(fs [yt,(.fn 144 (fs [])),yb,yb]),ex:=0,ot:= [],oτ:=(fs [])}
abbrev zrH:LoopH:= {key:=52,ht:= [1,2,7,8,9],hτ:=(fs [yt,yl,yt,yb,yb]),ex:=0,ot:= [1,2],oτ:=(fs [yt,yl])}
abbrev zrJ:LoopH:= {key:=52,ht:= [1,2,7,8,9],hτ:=(fs [yt,yl,yt,yb,yb]),ex:=0,ot:= [1,2],oτ:=(fs [yt,yl])}
abbrev zrC:LoopH:= {key:=52,ht:= [5,6,7],hτ:=(fs [yt,yb,yb]),ex:=0,ot:= [],oτ:=(fs [])}
abbrev zmY:LoopH:= {key:=261812,ht:= [5,14,15,18,19,20,102,103,104],hτ:=(fs [yl,.bool,.bool,ys,.bool,.bool,yt,yb,yb]),ex:=0,ot:= [14,15,19,20],oτ:=(fs [.bool,.bool,.bool,.bool])}
def psT:List (Nat×Ty):= [
  (229,(fs [yh,(.own yg)])),
  (38654705893,(fs [yh,(.sl .opq)])),
  (6,(fs [(.sl (.int .u8)),(.sl (.int .u8))])),
  (10,(fs [ye,yr,yb])),
  (21,(fs [(.sl (.int .u8)),(.sl (.int .u8))])),
  (25,(fs [ye,yr,yt])),
  (27,(fs [ye,(.sl (.int .u8))])),
  (28,(fs [ye,yq,yr])),
  (33,(fs [ye,yq,yh])),
  (43,(fs [(.sl (.int .u8))])),
  (44,(fs [ye,yr,yt])),
  (45,(fs [ye,yr,yt])),
  (46,(fs [ye,yr,yt])),
  (61,(fs [ye,yr])),
  (62,(fs [yb,yb,yb])),
  (63,(fs [ye,yr,yb])),
  (66,(fs [ye])),
  (67,(fs [ye,yr])),
  (77,(fs [yf])),
  (80,(fs [ye,yr,yt,yd])),
  (81,(fs [ye,yt])),
  (82,(fs [yt])),
  (83,(fs [(.sl (.int .u8))])),
  (87,(fs [ye,yh])),
  (90,(fs [yf,yb])),
  (91,(fs [yf,yb])),
  (92,(fs [yc])),
  (93,(fs [ye,yt])),
  (94,(fs [yt,yc])),
  (96,(fs [ye,yt])),
  (97,(fs [ye,yr,yt,yb,yc,yc])),
  (98,(fs [ye,yq])),
  (99,(fs [ye,yh])),
  (100,(fs [ye,yq,yh])),
  (102,(fs [yf,ye,yb])),
  (104,(fs [ye,yh])),
  (105,(fs [ye,yh,yr])),
  (107,(fs [yc,yb,yb])),
  (108,(fs [yt,yc,yb])),
  (110,(fs [yt,yc])),
  (111,(fs [yf])),
  (112,(fs [ye,yr,yt])),
  (113,(fs [ye,yt])),
  (114,(fs [yt])),
  (118,(fs [yc,yb])),
  (119,(fs [ya])),
  (123,(fs [yg,yb])),
  (125,(fs [ye])),
  (126,(fs [yc,yb])),
  (127,(fs [(.box (.agg (fs [ye,yr,yw,yg]))),yb])),
  (130,(fs [yb])),
  (131,(fs [yh,(.ptr ye)])),
  (137,(fs [yf])),
  (138,(fs [yf,yc])),
  (139,(fs [yf,yb])),
  (141,(fs [ye,yr,yt,yb,yc,yc])),
  (142,(fs [yh,yh])),
  (144,(fs [yd])),
  (147,(fs [ya,(.ptr ye)])),
  (148,(fs [ye,ya])),
  (152,(fs [yf])),
  (154,(fs [yd,(.ptr ye)])),
  (155,(fs [yb,(.ptr yt)])),
  (156,(fs [ye,yr,yt,yb,yc,yc])),
  (157,(fs [ye,yq])),
  (158,(fs [yo])),
  (159,(fs [yh])),
  (160,(fs [ye,yq,yh,yc])),
  (161,(fs [yf,ye])),
  (164,(fs [yf,ye])),
  (165,(fs [ye,ya])),
  (166,(fs [yh])),
  (167,(fs [ye,yh,yh])),
  (169,(fs [yh])),
  (170,(fs [yh])),
  (171,(fs [yh])),
  (172,(fs [yt])),
  (173,(fs [ye,yr,yt,yb])),
  (174,(fs [yh])),
  (177,(fs [(.box (.agg (fs [ye,yr,yw,yg]))),yb])),
  (178,(fs [(.box (.agg (fs [ye,yr,yw,yg]))),yb])),
  (181,(fs [ye,yh,yh])),
  (183,(fs [yf,ye,yb,yb])),
  (184,(fs [yb,(.ptr yt),yy])),
  (185,(fs [yb,yb,yy,yy])),
  (186,(fs [yh])),
  (187,(fs [yB,yb])),
  (188,(fs [ye,yh,yh,yi])),
  (189,(fs [ye,yh,yb])),
  (190,(fs [ye,yh,yi])),
  (192,(fs [ya,ya])),
  (193,(fs [yc,yc])),
  (195,(fs [ye,yc])),
  (197,(fs [ya,ya])),
  (199,(fs [yn])),
  (200,(fs [yh])),
  (201,(fs [ye,yh,yh,yi])),
  (202,(fs [ye,yh,yb])),
  (203,(fs [ye,yh,yi])),
  (204,(fs [ye,yh,yh])),
  (205,(fs [yb])),
  (206,(fs [yb,yb])),
  (207,(fs [yb,yc])),
  (209,(fs [yc,(.ptr yb)])),
  (210,(fs [yc,yb])),
  (211,(fs [ya,(.ptr ye),(.ptr yq),yy])),
  (212,(fs [ye,yq,yc,yc])),
  (214,(fs [ye,yh])),
  (215,(fs [yo,yh])),
  (216,(fs [ye,yc])),
  (217,(fs [yc,yc])),
  (218,(fs [ya,ya])),
  (219,(fs [ye,yh,yh,yb,yn])),
  (220,(fs [yb,yc])),
  (221,(fs [yh,yh])),
  (224,(fs [yC,yd])),
  (225,(fs [ye,yh])),
  (226,(fs [yC,yb,yc,yc])),
  (227,(fs [yC,yb,yb])),
  (228,(fs [ye,yc,yh])),
  (234,(fs [yh])),
  (235,(fs [yh])),
  (236,(fs [yh,yb,.bool])),
  (237,(fs [yb])),
  (238,(fs [ya,yb])),
  (239,(fs [ye,yh,yh])),
  (240,(fs [ye,yc,yc])),
  (241,(fs [ye,yc,yb])),
  (242,(fs [yo,yh])),
  (243,(fs [yo,yc])),
  (244,(fs [ye,yc,yb,yc])),
  (245,(fs [yr])),
  (246,(fs [yh,.bool])),
  (247,(fs [yc,yc])),
  (248,(fs [yh,yb])),
  (250,(fs [ye,yb])),
  (251,(fs [ye,yo,yc,yc])),
  (252,(fs [yc,yb])),
  (253,(fs [yh])),
  (254,(fs [yh])),
  (255,(fs [yh,yb,yb])),
  (256,(fs [ya,yb])),
  (257,(fs [ye,yh,yh])),
  (258,(fs [ye,yc,yc])),
  (259,(fs [ye,yc,yb])),
  (260,(fs [yo,yc])),
  (261,(fs [ye,yc,yb,yc])),
  (262,(fs [yc,yc])),
  (263,(fs [yh,yb])),
  (264,(fs [ye,yc,yh])),
  (265,(fs [yb,(.ptr yb)])),
  (267,(fs [ye,yq,yc,yb,yc])),
  (268,(fs [ye,yc,yb])),
  (269,(fs [ye,yn,yc,yc])),
  (270,(fs [yo])),
  (282,(fs [yh,yh])),
  (283,(fs [ye,yh,yh])),
  (284,(fs [ye,yc,yh])),
  (287,(fs [yo])),
  (288,(fs [ya,(.ptr ya)])),
  (289,(fs [yc,yb])),
  (290,(fs [ye,yo])),
  (291,(fs [ye,yc,yb])),
  (292,(fs [yo])),
  (294,(fs [yc,yc])),
  (295,(fs [ya,ya])),
  (297,(fs [yo])),
  (298,(fs [yh])),
  (299,(fs [yh])),
  (300,(fs [yc,yb])),
  (301,(fs [ye,yo,yc,yc])),
  (302,(fs [yc,yb])),
  (303,(fs [yo,yb,yc])),
  (304,(fs [yc,yc])),
  (305,(fs [yo,yo])),
  (306,(fs [ya])),
  (307,(fs [ye,yc,yh])),
  (314,(fs [ye,yc,yc,yc])),
  (315,(fs [yc,(.ptr ye)])),
  (317,(fs [yc,yc])),
  (318,(fs [yo,yo])),
  (319,(fs [ya])),
  (320,(fs [yh])),
  (321,(fs [yc,yc])),
  (322,(fs [yo,yo])),
  (323,(fs [yo,yo])),
  (324,(fs [ye,yc,yc,yc])),
  (326,(fs [yc,yc])),
  (327,(fs [yc,yy])),
  (328,(fs [yn,yb,yb])),
  (329,(fs [yo,yo])),
  (330,(fs [yc])),
  (331,(fs [yc,yc])),
  (332,(fs [yc,yb])),
  (333,(fs [yc,yy])),
  (334,(fs [yc,yb])),
  (8585345,(fs [yc,(.fn 130 (fs []))])),
  (8585395,(fs [yc,(.fn 130 (fs []))])),
  (8650837,(fs [yr,(.fn 131 yv)])),
  (8650897,(fs [yr,(.fn 131 yv)])),
  (9502863,(fs [yt,(.fn 144 (fs []))])),
  (9699474,(fs [yh,(.fn 147 yv)])),
  (9699522,(fs [yh,(.fn 147 yv)])),
  (10158223,(fs [yt,(.fn 154 yv)])),
  (10158233,(fs [yt,(.fn 154 yv)])),
  (10223745,(fs [yc,(.fn 155 (fs [(.ptr yt)]))])),
  (10223795,(fs [yc,(.fn 155 (fs [(.ptr yt)]))])),
  (12648639,(fs [yh,yh,(.fn 192 (fs []))])),
  (13762768,(fs [yo,(.fn 209 (fs [(.ptr yb)]))])),
  (13762826,(fs [yo,(.fn 209 (fs [(.ptr yb)]))])),
  (13893778,(fs [yh,(.fn 211 (fs [(.ptr ye),(.ptr yq),yy]))])),
  (13893826,(fs [yh,(.fn 211 (fs [(.ptr ye),(.ptr yq),yy]))])),
  (17432705,(fs [yc,(.fn 265 (fs [(.ptr yb)]))])),
  (17432755,(fs [yc,(.fn 265 (fs [(.ptr yb)]))])),
  (18940050,(fs [yh,(.fn 288 (fs [(.ptr ya)]))])),
  (18940098,(fs [yh,(.fn 288 (fs [(.ptr ya)]))])),
  (20709584,(fs [yo,(.fn 315 yv)])),
  (20709642,(fs [yo,(.fn 315 yv)])),
  (21496074,(fs [yo,(.fn 327 (fs [yy]))])),
  (21889232,(fs [yo,(.fn 333 (fs [yy]))])),
  (21889290,(fs [yo,(.fn 333 (fs [yy]))])),
  (4294967393,(fs [ye,yr,(.own yd),yb,yc,yc])),
  (4294967452,(fs [ye,yr,(.own yd),yb,yc,yc]))]
def ioT:List (Nat×List Bool):= [
  (77,[true]),
  (90,[true,false]),
  (91,[true,false]),
  (102,[true,false,false]),
  (111,[true]),
  (127,[true,false]),
  (137,[true]),
  (138,[true,false]),
  (139,[true,false]),
  (152,[true]),
  (161,[true,false]),
  (164,[true,false]),
  (177,[true,false]),
  (178,[true,false]),
  (183,[true,false,false,false]),
  (224,[true,false]),
  (226,[true,false,false,false]),
  (227,[true,false,false]),
  (4294967393,[false,false,true,false,false,false]),
  (4294967452,[false,false,true,false,false,false])]
def ioOf (f:Nat):List Bool:=(ioT.lookup f).getD (List.replicate (nFs ((psT.lookup f).getD .nil)) false)
def rsT:List (Nat×Ty):= [
  (229,(fs [yB])),
  (38654705893,(fs [(.own (.agg (fs [.bool,.opq,.opq])))])),
  (6,yj),
  (10,(fs [yw,.bool])),
  (21,yj),
  (25,(fs [yb,yb,.bool])),
  (27,(fs [(.agg (fs [yb,yn]))])),
  (28,(fs [.bool,.bool])),
  (33,(fs [.bool,.bool])),
  (43,(fs [ye,yr,yt])),
  (44,(fs [yb,yb,.bool])),
  (45,(fs [.bool,.bool])),
  (46,(fs [.bool,.bool])),
  (61,yj),
  (62,yj),
  (63,(fs [yw])),
  (66,yj),
  (67,yj),
  (77,(fs [ye,yA])),
  (80,(fs [yb])),
  (81,yj),
  (82,(fs [yb])),
  (83,(fs [yb])),
  (87,yj),
  (90,yj),
  (91,(fs [yb])),
  (92,(fs [yg])),
  (93,yj),
  (94,yj),
  (96,yj),
  (97,(fs [(.agg (fs [yb,yg,yg,yp])),.bool])),
  (98,yj),
  (99,yj),
  (100,(fs [yg,.bool])),
  (102,(fs [yA])),
  (104,yj),
  (105,yj),
  (107,yj),
  (108,(fs [yb])),
  (110,(fs [yg])),
  (111,(fs [ye,yr,yt])),
  (112,(fs [yb,yb])),
  (113,yj),
  (114,(fs [yb])),
  (118,(fs [yb])),
  (119,(fs [yk])),
  (123,(fs [yg])),
  (125,yj),
  (126,(fs [yg])),
  (127,yj),
  (130,yj),
  (131,yj),
  (137,(fs [(.agg (fs [yg]))])),
  (138,(fs [yb])),
  (139,(fs [yk])),
  (141,(fs [yB,.bool])),
  (142,yj),
  (144,yj),
  (147,yj),
  (148,yj),
  (152,(fs [yb])),
  (154,yj),
  (155,yj),
  (156,(fs [yp,.bool])),
  (157,yj),
  (158,(fs [yg])),
  (159,(fs [yn])),
  (160,yj),
  (161,(fs [yp])),
  (164,(fs [yk])),
  (165,yj),
  (166,yj),
  (167,(fs [yn,.bool])),
  (169,(fs [yb])),
  (170,yj),
  (171,yj),
  (172,(fs [(.own (.agg (fs [yb,yg,yg,yB])))])),
  (173,(fs [yb])),
  (174,(fs [yB])),
  (177,(fs [yb])),
  (178,yj),
  (181,(fs [yB,yb])),
  (183,(fs [yg])),
  (184,(fs [yh])),
  (185,yj),
  (186,(fs [yB])),
  (187,(fs [yB,.bool])),
  (188,(fs [yB,yb])),
  (189,(fs [yB,yb])),
  (190,(fs [yB,yb])),
  (192,yj),
  (193,yj),
  (195,yj),
  (197,yj),
  (199,(fs [yn])),
  (200,(fs [yp])),
  (201,(fs [yp,yb])),
  (202,(fs [yp,yb])),
  (203,(fs [yp,yb])),
  (204,(fs [yp,yb])),
  (205,yj),
  (206,(fs [yb])),
  (207,yj),
  (209,yj),
  (210,yj),
  (211,yj),
  (212,(fs [yb])),
  (214,(fs [yh,.bool])),
  (215,(fs [yp])),
  (216,yj),
  (217,yj),
  (218,yj),
  (219,(fs [yn,.bool])),
  (220,(fs [yc])),
  (221,yj),
  (224,yj),
  (225,(fs [yg,yx])),
  (226,yj),
  (227,yj),
  (228,(fs [yg,yb])),
  (234,(fs [yB])),
  (235,(fs [yp])),
  (236,yj),
  (237,yj),
  (238,(fs [yc,yc])),
  (239,(fs [yB,.bool])),
  (240,(fs [yn,.bool])),
  (241,(fs [yg])),
  (242,(fs [yB,.bool])),
  (243,(fs [yg,.bool])),
  (244,(fs [yg])),
  (245,(fs [yp])),
  (246,(fs [yB,yb])),
  (247,yj),
  (248,yj),
  (250,(fs [yb])),
  (251,(fs [yn,.bool])),
  (252,yj),
  (253,(fs [yp])),
  (254,(fs [yB])),
  (255,yj),
  (256,(fs [yc,yc])),
  (257,(fs [yh,.bool])),
  (258,(fs [yn,.bool])),
  (259,(fs [yg])),
  (260,(fs [yg])),
  (261,(fs [yg])),
  (262,yj),
  (263,yj),
  (264,(fs [yg,yb])),
  (265,yj),
  (267,(fs [yb,yb])),
  (268,(fs [yb])),
  (269,(fs [yn,.bool])),
  (270,(fs [yn])),
  (282,yj),
  (283,(fs [yx])),
  (284,(fs [yg,yb,yb,.bool])),
  (287,(fs [(.own yg)])),
  (288,yj),
  (289,(fs [yg])),
  (290,yj),
  (291,(fs [yb])),
  (292,(fs [yg])),
  (294,(fs [yb])),
  (295,(fs [yb])),
  (297,(fs [yn])),
  (298,(fs [yn])),
  (299,(fs [yb])),
  (300,(fs [yg])),
  (301,yj),
  (302,yj),
  (303,(fs [yn])),
  (304,(fs [yb])),
  (305,(fs [yb])),
  (306,(fs [yn])),
  (307,(fs [yg,yb,yb,.bool])),
  (314,(fs [yg,.bool])),
  (315,yj),
  (317,yj),
  (318,(fs [yb])),
  (319,(fs [yn])),
  (320,(fs [yg])),
  (321,yj),
  (322,(fs [yn])),
  (323,yj),
  (324,(fs [yg,.bool])),
  (326,yj),
  (327,yj),
  (328,(fs [yn])),
  (329,yj),
  (330,(fs [yg])),
  (331,yj),
  (332,(fs [yb])),
  (333,yj),
  (334,(fs [yb])),
  (8585345,yj),
  (8585395,(fs [yb])),
  (8650837,yj),
  (8650897,(fs [yb])),
  (9502863,(fs [yb])),
  (9699474,yj),
  (9699522,(fs [yb])),
  (10158223,(fs [yb])),
  (10158233,yj),
  (10223745,yj),
  (10223795,(fs [yb])),
  (12648639,yj),
  (13762768,yj),
  (13762826,(fs [yb])),
  (13893778,yj),
  (13893826,(fs [yb])),
  (17432705,yj),
  (17432755,(fs [yb])),
  (18940050,yj),
  (18940098,(fs [yb])),
  (20709584,yj),
  (20709642,(fs [yb])),
  (21496074,(fs [yb])),
  (21889232,yj),
  (21889290,(fs [yb])),
  (4294967393,(fs [(.agg (fs [yb,yg,yg,yp])),.bool])),
  (4294967452,(fs [yp,.bool]))]
def capsT:List (Nat×Ty):= [
  (86,yv),
  (131,yv),
  (147,yv),
  (150,(fs [(.ptr ye),(.ptr yh)])),
  (154,yv),
  (155,(fs [(.ptr yt)])),
  (184,(fs [(.ptr yt),yy])),
  (185,(fs [yy,yy])),
  (196,(fs [(.ptr ya)])),
  (209,(fs [(.ptr yb)])),
  (211,(fs [(.ptr ye),(.ptr yq),yy])),
  (265,(fs [(.ptr yb)])),
  (288,(fs [(.ptr ya)])),
  (315,yv),
  (327,(fs [yy])),
  (333,(fs [yy]))]
def hintT:List (Nat×List (Nat×Hint)):= [
  (38654705893,[(58,.loop znv)]),
  (6,[(511,(.cut [] (fs []) true [])),(130906,.loop zmY)]),
  (25,[(122,.loop znX)]),
  (27,[(122,.loop zqB),(62668,.loop zph),(250684,.loop zoe)]),
  (28,[(58,.loop zr4)]),
  (61,[(26,.loop zqK)]),
  (63,[(58,.loop zrQ),(62,.loop zsd)]),
  (77,[(63,(.cut [0,2,4,5] (fs [yf,yu,yu,yA]) true [])),(250,.loop zmq),(64074,.loop zk7)]),
  (81,[(58,.loop zpV)]),
  (83,[(58,.loop zqM)]),
  (91,[(15,(.cut [0,1,5] (fs [yf,yb,yb]) true []))]),
  (96,[(26,.loop zrH)]),
  (100,[(30,.loop znz),(1932,.loop zmo)]),
  (102,[(58,.loop zmN)]),
  (104,[(26,.loop zqv)]),
  (105,[(58,.loop znZ)]),
  (107,[(26,.loop zul)]),
  (108,[(122,.loop zp2),(979,(.cut [0,7,17,18,19] (fs [yt,yb,yc,yb,yb]) true []))]),
  (110,[(58,.loop zrO),(467,(.cut [0,5,8,9,10] (fs [yt,yg,yc,yb,yb]) true []))]),
  (111,[(31,(.force 9))]),
  (112,[(58,.loop zrS)]),
  (113,[(26,.loop zrJ)]),
  (114,[(26,.loop zrC)]),
  (118,[(26,.loop zlX)]),
  (123,[(28,.loop zuk)]),
  (126,[(58,.loop zs3),(467,(.cut [1,5,8,9,10] (fs [yb,yg,yc,yb,yb]) true []))]),
  (127,[(1018,.loop zmp)]),
  (137,[(7,(.cut [0,2,3] (fs [yf,yu,yu]) true []))]),
  (139,[(15,(.cut [0,4,6] (fs [yf,(.box yk),(.box yk)]) true []))]),
  (141,[(15,(.cut [] (fs []) true [])),(490,(.cut [1,11,40] (fs [yr,yy,.bool]) true [])),(251900,(.cut [6,10,14,135] (fs [yl,yy,(.fn 184 (fs [(.ptr yt),yy])),.bool]) true [])),(4030426,.loop zmC)]),
  (152,[(7,(.cut [0,3] (fs [yf,yb]) true []))]),
  (156,[(58,.loop zsW),(63,(.cut [17,18] (fs [yp,yb]) true [])),(127,(.cut [12,13] (fs [yp,.bool]) true [])),(252,(.cut [1,3,5,6,14,17,18,49] (fs [yr,yb,yc,yl,yA,yp,yb,.bool]) true [])),(1011,(.cut [3,5,6,14,17,18,78] (fs [yb,yc,yl,yA,yp,yb,.bool]) true [])),(4047,(.cut [3,5,6,14,17,18,120] (fs [yb,yc,yl,yA,yp,yb,.bool]) true [])),(16191,(.cut [3,5,6,14,17,18,146] (fs [yb,yc,yl,yA,yp,yb,.bool]) true [])),(64767,(.cut [6,14,17,18,182] (fs [yl,yA,yp,yb,.bool]) true [])),(4145130,.loop zok)]),
  (157,[(58,.loop znB)]),
  (158,[(58,.loop zta),(467,(.cut [0,3,5] (fs [yo,yg,yb]) true []))]),
  (159,[(58,.loop zrP)]),
  (161,[(15,(.cut [0,3,5] (fs [yf,yl,yp]) true [])),(31,(.cut [0,3,5] (fs [yf,yl,yp]) true [])),(58,.loop znx),(63,(.cut [0,5] (fs [yf,yp]) true [])),(4052,.loop zmw)]),
  (164,[(7,(.cut [0,4,5] (fs [yf,(.box yk),(.box yk)]) true []))]),
  (166,[(26,.loop zn2),(13518,.loop zmm)]),
  (167,[(250,.loop ztb)]),
  (169,[(58,.loop zqE)]),
  (172,[(58,.loop ztF)]),
  (174,[(58,.loop zui)]),
  (177,[(122,.loop zl0)]),
  (178,[(58,.loop zpq),(122,.loop zol),(506,.loop zn9)]),
  (181,[(15,(.force 8)),(122,.loop zj9)]),
  (183,[(31,(.cut [0,2,3,5,9] (fs [yf,yb,yb,yl,yb]) true [])),(2042,.loop znD)]),
  (188,[(15,(.force 2)),(1023,(.force 18)),(2047,(.force 20)),(65535,(.cut [7,18,20,23] (fs [(.box yi),yh,yh,yp]) true []))]),
  (189,[(31,(.force 10))]),
  (190,[(127,(.force 14))]),
  (193,[(58,.loop zl3)]),
  (195,[(122,.loop zny)]),
  (199,[(26,.loop zuH),(211,(.cut [0,6,7] (fs [yn,yb,yb]) true [(5,0)]))]),
  (201,[(131066,.loop zob),(262138,.loop zoo),(1048531,(.cut [4,7,10,14,15,16,17,18,19,20,128,129] yD true [(127,18)])),(16776857,(.cut [4,7,10,14,15,16,17,18,19,20,24,144,145] (fs [yl,(.box yi),yc,yc,yc,yc,yo,yp,yp,yp,(.box ya),yb,yb]) true [(143,19)]))]),
  (204,[(122,.loop zpC)]),
  (206,[(58,.loop zr3)]),
  (215,[(58,.loop zrA)]),
  (217,[(58,.loop zsS)]),
  (219,[(58,.loop zpb),(14950,.loop zmX),(59801,(.cut [1,2,3,4,5,13,14,26,27,28] (fs [yh,yh,yb,yo,yl,(.box ya),yb,yh,yb,yb]) true []))]),
  (221,[(58,.loop zpc)]),
  (225,[(122,.loop zpN),(7833,(.cut [1,2,6,7,8,18,19] (fs [yh,yl,yg,yx,yb,yb,yb]) true [])),(62670,.loop zn8),(4010898,.loop zm2),(1026789990,.loop zk6),(4107159961,(.cut [1,2,6,7,8,11,12,13,18,19,40,41] (fs [yh,yl,yg,yx,yb,yb,yb,yb,yb,yb,yb,yb]) true []))]),
  (226,[(122,.loop zmA)]),
  (227,[(26,.loop zo6)]),
  (228,[(30,.loop zog)]),
  (235,[(58,.loop zuB),(467,(.cut [3,6,7,8] (fs [yp,yh,yb,yb]) true []))]),
  (239,[(7,(.cut [2,3,8] (fs [yh,yl,yb]) true [])),(31,(.force 10)),(250,.loop zom)]),
  (240,[(14,.loop zpp),(452,.loop zn4),(911,(.cut [1,2,3,8,10,11] (fs [yc,yc,yl,yn,yb,yg]) true [])),(1867770,.loop zlW),(14942163,(.cut [1,2,3,8,10,11,12,147,148] (fs [yg,yg,yl,yn,yb,yc,yn,yb,yb]) true [(146,8)]))]),
  (242,[(7,(.force 6)),(58,.loop zoj)]),
  (243,[(58,.loop ztH),(3737,(.cut [0,6,9,10,11] (fs [yo,yg,yc,yb,yb]) true []))]),
  (245,[(58,.loop zgl),(250,.loop zf1)]),
  (248,[(26,.loop zpS)]),
  (251,[(122,.loop zn5),(979,(.cut [1,3,4,10,18,19,20] (fs [yn,yc,yl,yb,yc,yb,yb]) true [])),(125343,(.cut [1,3,4,13,18,19,20] (fs [yn,yc,yl,yb,yc,yb,yb]) true []))]),
  (253,[(122,.loop zqk)]),
  (254,[(58,.loop zs9),(467,(.cut [3,9,10,11] (fs [yp,yh,yb,yb]) true [])),(119610,.loop zps)]),
  (257,[(122,.loop zqJ)]),
  (258,[(30,.loop zrV),(1932,.loop zpX),(30975,(.cut [1,2,3,8,14,15] (fs [yc,yc,yl,yn,yb,yg]) true []))]),
  (260,[(58,.loop zsb),(467,(.cut [0,5,8,9,10] (fs [yo,yg,yc,yb,yb]) true []))]),
  (263,[(26,.loop zp9)]),
  (264,[(30,.loop zqL)]),
  (267,[(250,.loop zpu)]),
  (268,[(28,.loop ztC),(907,(.cut [1,2,3,7] (fs [yc,yb,yl,yb]) true []))]),
  (269,[(28,.loop zrD)]),
  (270,[(58,.loop zs0)]),
  (282,[(250,.loop zr8)]),
  (283,[(58,.loop zs1),(14950,.loop zpD),(956818,.loop zpa),(244945510,.loop zmL),(31353025318,.loop zl2),(250824202547,(.cut [1,2,3,7,8,9,10,11,12,20,21,28,29,30,46,47] (fs [yh,yh,yl,yx,yb,yb,yb,(.box ya),yb,yb,yb,yh,yb,yb,yb,yb]) true []))]),
  (284,[(26,.loop zp5),(3366,.loop zn0),(861798,.loop zmM)]),
  (287,[(122,.loop zru),(62670,.loop zqi),(501363,(.cut [3,4,5,15,16,17,27,28,29] (fs [(.map yb),(.own yg),yb,yo,yb,yb,yc,yb,yb]) true [])),(8021811,(.cut [3,4,5,7,8,15,16,17,27,28,29] (fs [(.map yb),(.own yg),yb,yb,yb,yo,yb,yb,yc,yb,yb]) true []))]),
  (289,[(58,.loop ztT),(467,(.cut [1,5,11,12] (fs [yb,yg,yb,yb]) true [(10,5)]))]),
  (291,[(26,.loop zqy)]),
  (292,[(58,.loop zk9),(250,.loop zkD)]),
  (297,[(122,.loop zqe),(125338,.loop znw),(8021657,(.cut [3,4,7,9,12,13,14,18,19,20] (fs [yg,yn,yg,yb,yo,yb,yb,yc,yb,yb]) true [])),(128346522,.loop zl1)]),
  (298,[(58,.loop zrI)]),
  (300,[(58,.loop zrE),(467,(.cut [1,5,11,12] (fs [yb,yg,yb,yb]) true [(10,5)]))]),
  (301,[(26,.loop zrK)]),
  (302,[(26,.loop ztx)]),
  (303,[(250,.loop zr5),(2003,(.cut [0,1,2,7,8,17,18] (fs [yo,yb,yc,yn,yn,yb,yb]) true []))]),
  (307,[(26,.loop zs6),(3366,.loop zqD),(861798,.loop zo5)]),
  (314,[(506,.loop znc)]),
  (317,[(122,.loop zpf)]),
  (318,[(122,.loop zmP),(979,(.cut [5,6,12,13,14] (fs [yn,yn,yo,yb,yb]) true []))]),
  (320,[(58,.loop zsX),(14950,.loop zqp)]),
  (321,[(122,.loop zo3)]),
  (322,[(122,.loop zrL),(979,(.cut [5,6,16,17,18] (fs [yn,yn,yo,yb,yb]) true [])),(125338,.loop zpk),(1002707,(.cut [5,6,8,9,16,17,18,23,24] (fs [yn,yn,yc,yb,yo,yb,yb,yb,yb]) true [(22,5)]))]),
  (323,[(26,.loop zs8),(27034,.loop zpR)]),
  (324,[(250,.loop ztZ)]),
  (326,[(26,.loop zo9)]),
  (329,[(26,.loop zpE)]),
  (330,[(58,.loop zs5),(467,(.cut [3,6,7,8] (fs [yg,yc,yb,yb]) true []))]),
  (331,[(26,.loop zqN)]),
  (332,[(58,.loop ztW),(467,(.cut [1,5,8,9,10] (fs [yb,yb,yc,yb,yb]) true []))]),
  (334,[(58,.loop zr6),(467,(.cut [1,5,8,9,10] (fs [yb,yb,yc,yb,yb]) true []))]),
  (8585395,[(26,.loop zdz)]),
  (8650897,[(26,.loop zbw)]),
  (9502863,[(26,.loop zbR)]),
  (9699522,[(26,.loop zbK)]),
  (10158223,[(26,.loop zbB)]),
  (10223795,[(26,.loop zee)]),
  (12648639,[(58,.loop zaQ)]),
  (13762826,[(26,.loop zds)]),
  (13893826,[(26,.loop zbQ)]),
  (17432755,[(26,.loop zc1)]),
  (18940098,[(26,.loop zcB)]),
  (20709642,[(26,.loop zcm)]),
  (21496074,[(26,.loop zcn)]),
  (21889290,[(26,.loop zcP)]),
  (4294967452,[(58,.loop zqb),(63,(.cut [2,17,18] (fs [(.own yd),yp,yb]) true [])),(127,(.cut [2,12,13] (fs [(.own yd),yp,.bool]) true [])),(252,(.cut [1,2,3,5,6,14,17,18,49] (fs [yr,(.own yd),yb,yc,yl,yA,yp,yb,.bool]) true [])),(1011,(.cut [2,3,5,6,14,17,18,78] (fs [(.own yd),yb,yc,yl,yA,yp,yb,.bool]) true [])),(4047,(.cut [2,3,5,6,14,17,18,120] (fs [(.own yd),yb,yc,yl,yA,yp,yb,.bool]) true [])),(16191,(.cut [2,3,5,6,14,17,18,146] (fs [(.own yd),yb,yc,yl,yA,yp,yb,.bool]) true [])),(64767,(.cut [2,6,14,17,18,182] (fs [(.own yd),yl,yA,yp,yb,.bool]) true [])),(4145130,.loop zml)])]
def deepT:List ((Nat×TypeId)×Ty):= [((7,60),yB),((7,139),yk),((14,22),yg),((22,139),yk),((25,62),(.agg (fs [yb,yg,yg,yB]))),((30,139),(.agg (fs [.bool,.opq,.opq])))]
def borrowT:List (Nat×TypeId):= [(15,60),(23,22),(25,22),(30,22),(32,22),(37,60),(52,22),(60,22),(67,22),(78,22),(85,22)]
def deFn (x:List (List Int)×Int×Int×Unit):Option ((List (List Int)×Unit)×Unit):=if 0<=x.2.1∧x.2.2.1=x.2.1+1∧x.2.2.1<=(List.length x.1:Int) then some ((x.1.take (Int.toNat x.2.1)++x.1.drop (Int.toNat x.2.2.1),()),()) else none
def deG:((psT.lookup 328).getD .nil).den->Option (((rsT.lookup 328).getD .nil).den×(ioTy (ioOf 328) ((psT.lookup 328).getD .nil)).den):=fun x=>deFn x
def wtFn (x:List CL×List (List Int)×Unit):Option ((List CL×Unit)×Unit):=if x.1.length<=1000000∧2*x.1.length<=x.2.1.length then some ((wtZ x.1 x.2.1,()),()) else none
def wtG:((psT.lookup 229).getD .nil).den->Option (((rsT.lookup 229).getD .nil).den×(ioTy (ioOf 229) ((psT.lookup 229).getD .nil)).den):=fun x=>wtFn x
def E1:Env:= {
  P:=Go.Proofs.Tryz.prog
  ps:=fun f=>(psT.lookup f).getD .nil
  io:=ioOf
  rs:=fun f=>(rsT.lookup f).getD .nil
  caps:=fun f=>(capsT.lookup f).getD .nil
  hint:=fun f p=>(((hintT.lookup f).getD []).lookup p).getD .none
  ext:=fun f=>if h:f=229 then some (by subst h;exact wtG) else if h:f=328 then some (by subst h;exact deG) else none
  tab:= []
  clone:=fun f=>List.lookup f [(117,22),(249,60),(296,54)]
  grow:=fun f=>List.lookup f [(293,60),(316,22)]
  deep:=fun d t=>List.lookup (d,t) deepT
  borrow:=fun d t=>List.contains borrowT (d,t)
  twin:=fun d f=>(List.lookup (d,f) [((23,156),65536),((30,97),65536),((84,97),65536)]).getD 0,hid:=fun d f=>List.lookup (d,f) [((41,226),4),((62,226),4),((89,224),4),((90,227),4),((100,227),4)],twif:=fun d f=>(List.lookup (d,f) [((23,156),3),((30,97),3),((84,97),3)]).getD 0}
def _root_.Go.Code.part:Code->List Nat->Code
  | .seq a b,d::r=>if d=0 then a.part r else b.part r
  | .cond _ a b,d::r=>if d=0 then a.part r else b.part r
  | .block _ a,_::r=>a.part r
  | .loop a,_::r=>a.part r
  | c,_=>c
def bodyOf (f:Nat):Code:=match (E1.P.funcs[f]?).bind (·.body) with
  | some c=>c
  | none=> .skip
end
end Go.Proofs.YtchkojfhcdcnmaaGreatCk.Ev
