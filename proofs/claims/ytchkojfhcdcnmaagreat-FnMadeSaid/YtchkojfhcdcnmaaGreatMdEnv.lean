/- A text of its own: Env; no condition but those that each theorem names. -/
import Derived.Test.YtchkojfhcdcnmaaGreatMdEvWt
import Derived.Test.YtchkojfhcdcnmaaGreatMdEvLm
import Derived.Test.YtchkojfhcdcnmaaGreatProg
import Derived.KernelRfl
namespace Go.Proofs.YtchkojfhcdcnmaaGreatMd.Ev
open Go
noncomputable section
def fs:List Ty->Ty
  | []=> .nil
  | a::r=> .cons a (fs r)
abbrev ya:Ty:= .agg (fs [.bool,(.sl (.int .i64)),(.sl (.int .i64))])
abbrev yb:Ty:= .int .i64
abbrev yc:Ty:= .sl yb
abbrev yd:Ty:= .agg (fs [yc])
abbrev ye:Ty:= .agg (fs [yb,yc,yc,(.sl ya)])
abbrev yf:Ty:= .box (.agg (fs [(.sl (.int .u8)),yb,(.int .u64)]))
abbrev yg:Ty:= .sl ya
abbrev yh:Ty:= .own yb
abbrev yi:Ty:= .agg (fs [yb,yb,yb,yb,yb])
abbrev yj:Ty:=fs [.bool]
abbrev yk:Ty:= .box yd
abbrev yl:Ty:= .agg (fs [.bool,yh,yh])
abbrev ym:Ty:= .box (.agg (fs [yc,(.sl yg),yb,(.own ye),yh,yh]))
abbrev yn:Ty:= .own yc
abbrev yo:Ty:= .sl yc
abbrev yp:Ty:= .own ya
abbrev yq:Ty:= .box (.agg (fs [yh]))
abbrev yr:Ty:= .sl yg
abbrev ys:Ty:= .agg (fs [yb,yo])
abbrev yt:Ty:= .box (.agg (fs [yb,yn]))
abbrev yu:Ty:= .sl ye
abbrev yv:Ty:=fs [(.ptr yd)]
abbrev yw:Ty:= .sl (.int .u8)
abbrev yx:Ty:= .agg (fs [yb,(.own ye),yh])
abbrev yy:Ty:= .own yg
abbrev yz:Ty:= .own yi
abbrev yA:Ty:= .ptr yc
abbrev yB:Ty:= .box (.agg (fs [yc,yr,yb,(.own ye),.opq,yh]))
abbrev yC:Ty:= .box (.agg (fs [yd,yr,(.agg (fs [yb,(.own ye),.opq])),yh]))
abbrev yD:Ty:= .own yl
abbrev yE:Ty:=fs [yk,(.box yi),yc,yc,yc,yc,yo,yp,yp,yp,yb,yb]
abbrev yF:Ty:= .agg (fs [yb,yh,yh,yp])
abbrev zse:LoopH:= {key:=116,ht:= [0,1,12,13],hτ:=(fs [yc,yc,yb,yb]),ex:=0,ot:= [],oτ:=(fs [])}
abbrev zsa:LoopH:= {key:=116,ht:= [0,1,12,13],hτ:=(fs [yg,yg,yb,yb]),ex:=0,ot:= [],oτ:=(fs [])}
abbrev zrH:LoopH:= {key:=116,ht:= [0,1,12,13],hτ:=(fs [yu,yu,yb,yb]),ex:=0,ot:= [],oτ:=(fs [])}
abbrev zr3:LoopH:= {key:=116,ht:= [3,6,7,8],hτ:=(fs [yb,yw,yb,yb]),ex:=0,ot:= [3],oτ:=(fs [yb])}
abbrev zr7:LoopH:= {key:=244,ht:= [4,5,6,21,22,23],hτ:=(fs [yt,(.int .u64),yt,yc,yb,yb]),ex:=0,ot:= [4,6],oτ:=(fs [yt,yt])}
abbrev zqq:LoopH:= {key:=125336,ht:= [4,5,6,8,9,21,22,23],hτ:=(fs [yt,(.int .u64),yt,yb,yb,yc,yb,yb]),ex:=2,ot:= [4,5,6,9,21,22,23],oτ:=(fs [yt,(.int .u64),yt,yb,yc,yb,yb])}
abbrev zpb:LoopH:= {key:=501368,ht:= [4,5,6,9,10,21,22,23],hτ:=(fs [yt,(.int .u64),yt,yb,yh,yc,yb,yb]),ex:=4,ot:= [4,5,6,10,21,22,23],oτ:=(fs [yt,(.int .u64),yt,yh,yc,yb,yb])}
abbrev zdY:LoopH:= {key:=52,ht:= [0,1,7,8],hτ:=(fs [yc,(.fn 130 (fs [])),yb,yb]),ex:=0,ot:= [],oτ:=(fs [])}
abbrev zte:LoopH:= {key:=116,ht:= [0,5,6,7],hτ:=(fs [yb,yb,yb,yb]),ex:=0,ot:= [5],oτ:=(fs [yb])}
abbrev zdj:LoopH:= {key:=52,ht:= [0,1,7,8],hτ:=(fs [yc,(.fn 265 (fs [(.ptr yb)])),yb,yb]),ex:=0,ot:= [],oτ:=(fs [])}
abbrev zoM:LoopH:= {key:=116,ht:= [2,3,21,22,23],hτ:=(fs [yk,(.box ys),yo,yb,yb]),ex:=0,ot:= [],oτ:=(fs [])}
abbrev zoH:LoopH:= {key:=244,ht:= [2,5,11,12,13],hτ:=(fs [yk,yb,yc,yb,yb]),ex:=0,ot:= [5],oτ:=(fs [yb])}
abbrev zb4:LoopH:= {key:=52,ht:= [0,1,7,8],hτ:=(fs [yg,(.fn 147 yv),yb,yb]),ex:=0,ot:= [],oτ:=(fs [])}
abbrev zmU:LoopH:= {key:=52,ht:= [0,1,7,8],hτ:=(fs [yc,yb,yb,yb]),ex:=0,ot:= [],oτ:=(fs [])}
abbrev zdS:LoopH:= {key:=52,ht:= [0,1,7,8],hτ:=(fs [yo,(.fn 209 (fs [(.ptr yb)])),yb,yb]),ex:=0,ot:= [],oτ:=(fs [])}
abbrev zuk:LoopH:= {key:=116,ht:= [0,3,5],hτ:=(fs [yo,yh,yb]),ex:=0,ot:= [3],oτ:=(fs [yh])}
abbrev zs4:LoopH:= {key:=116,ht:= [3,6,7,8],hτ:=(fs [yn,yg,yb,yb]),ex:=0,ot:= [3],oτ:=(fs [yn])}
abbrev zqK:LoopH:= {key:=500,ht:= [2,4,5,6,12,13,14,33,34],hτ:=(fs [yc,yc,yk,(.box ys),yb,yb,yb,yb,yb]),ex:=0,ot:= [6,12,13,14],oτ:=(fs [(.box ys),yb,yb,yb])}
abbrev zca:LoopH:= {key:=52,ht:= [0,1,7,8],hτ:=(fs [yg,(.fn 211 (fs [(.ptr yd),(.ptr ys),yA])),yb,yb]),ex:=0,ot:= [],oτ:=(fs [])}
abbrev zoP:LoopH:= {key:=60,ht:= [2,3,4,8,9],hτ:=(fs [yg,yk,(.box ys),yh,yh]),ex:=999,ot:= [],oτ:=(fs [])}
abbrev znN:LoopH:= {key:=3864,ht:= [2,3,4,8,9,10],hτ:=(fs [yg,yk,(.box ys),yh,yh,yb]),ex:=2,ot:= [2,3,4,8,9,10],oτ:=(fs [yg,yk,(.box ys),yh,yh,yb])}
abbrev zth:LoopH:= {key:=116,ht:= [3,4,8,13,14,15],hτ:=(fs [yk,(.box ys),.bool,yr,yb,yb]),ex:=0,ot:= [8],oτ:=yj}
abbrev zmY:LoopH:= {key:=116,ht:= [0,1,12,13],hτ:=(fs [yc,yc,yb,yb]),ex:=0,ot:= [],oτ:=(fs [])}
abbrev zcg:LoopH:= {key:=52,ht:= [0,1,7,8],hτ:=(fs [yg,(.fn 196 (fs [(.ptr ya)])),yb,yb]),ex:=0,ot:= [],oτ:=(fs [])}
abbrev zpe:LoopH:= {key:=52,ht:= [0,5,6,7],hτ:=(fs [yg,yg,yb,yb]),ex:=0,ot:= [],oτ:=(fs [])}
abbrev zr1:LoopH:= {key:=52,ht:= [1,2,3,7],hτ:=(fs [yc,yb,yk,yb]),ex:=0,ot:= [2],oτ:=(fs [yb])}
abbrev zpJ:LoopH:= {key:=244,ht:= [1,3,4,10,18,19,20],hτ:=(fs [yn,yc,yk,yb,yc,yb,yb]),ex:=0,ot:= [1,3,10],oτ:=(fs [yn,yc,yb])}
abbrev zoL:LoopH:= {key:=116,ht:= [1,2,3,4,23,24,25],hτ:=(fs [yo,yg,yg,yk,yg,yb,yb]),ex:=0,ot:= [],oτ:=(fs [])}
abbrev zm2:LoopH:= {key:=59804,ht:= [1,2,3,4,11,23,24,25,36],hτ:=(fs [yo,yg,yg,yk,(.box ya),yg,yb,yb,yb]),ex:=2,ot:= [1,2,3,4,23,24,25],oτ:=(fs [yo,yg,yg,yk,yg,yb,yb])}
abbrev zv5:LoopH:= {key:=52,ht:= [0,6,7],hτ:=(fs [yn,yb,yb]),ex:=0,ot:= [0],oτ:=(fs [yn]),hal:= [(5,0)]}
abbrev zbC:LoopH:= {key:=52,ht:= [0,1,7,8],hτ:=(fs [yr,(.fn 150 (fs [(.ptr yd),(.ptr yg)])),yb,yb]),ex:=0,ot:= [],oτ:=(fs [])}
abbrev zbZ:LoopH:= {key:=52,ht:= [0,1,7,8],hτ:=(fs [yr,(.fn 86 yv),yb,yb]),ex:=0,ot:= [],oτ:=(fs [])}
abbrev zvG:LoopH:= {key:=56,ht:= [1,2,3,7],hτ:=(fs [yc,yb,yk,yb]),ex:=0,ot:= [2],oτ:=(fs [yb])}
abbrev zr5:LoopH:= {key:=52,ht:= [1,2,7,8,9],hτ:=(fs [yg,yk,yg,yb,yb]),ex:=0,ot:= [1],oτ:=(fs [yg])}
abbrev zve:LoopH:= {key:=52,ht:= [1,2,9,10,11],hτ:=(fs [yb,yb,yc,yb,yb]),ex:=0,ot:= [],oτ:=(fs [])}
abbrev zr6:LoopH:= {key:=52,ht:= [1,2,7,8,9],hτ:=(fs [yr,yk,yr,yb,yb]),ex:=0,ot:= [1,2],oτ:=(fs [yr,yk])}
abbrev zu3:LoopH:= {key:=52,ht:= [1,7,8,9],hτ:=(fs [yb,yc,yb,yb]),ex:=0,ot:= [],oτ:=(fs [])}
abbrev zri:LoopH:= {key:=244,ht:= [3,4,12,13,14],hτ:=(fs [yh,yn,yo,yb,yb]),ex:=0,ot:= [4],oτ:=(fs [yn])}
abbrev zoQ:LoopH:= {key:=250676,ht:= [3,4,7,12,13,14,18,19,20],hτ:=(fs [yh,yn,yh,yo,yb,yb,yc,yb,yb]),ex:=2,ot:= [3,4,7,12,13,14],oτ:=(fs [yh,yn,yh,yo,yb,yb])}
abbrev zmR:LoopH:= {key:=256693044,ht:= [3,4,7,9,12,13,14,18,19,20,37,38],hτ:=(fs [yh,yn,yh,yb,yo,yb,yb,yc,yb,yb,yb,yb]),ex:=4,ot:= [3,4,7,9,12,13,14,18,19,20],oτ:=(fs [yh,yn,yh,yb,yo,yb,yb,yc,yb,yb]),hal:= [(36,3)]}
abbrev zs1:LoopH:= {key:=116,ht:= [3,6,7,8],hτ:=(fs [yn,yg,yb,yb]),ex:=0,ot:= [3],oτ:=(fs [yn])}
abbrev zqY:LoopH:= {key:=244,ht:= [3,4,10,11,12],hτ:=(fs [yn,yp,yg,yb,yb]),ex:=0,ot:= [4],oτ:=(fs [yp])}
abbrev zu6:LoopH:= {key:=116,ht:= [3,6,7,8],hτ:=(fs [yD,yg,yb,yb]),ex:=0,ot:= [3],oτ:=(fs [yD])}
abbrev zuC:LoopH:= {key:=116,ht:= [0,1,12,13],hτ:=(fs [yc,yc,yb,yb]),ex:=0,ot:= [],oτ:=(fs [])}
abbrev zus:LoopH:= {key:=116,ht:= [3,9,10,11],hτ:=(fs [yp,yg,yb,yb]),ex:=0,ot:= [3],oτ:=(fs [yp])}
abbrev zqx:LoopH:= {key:=239220,ht:= [3,5,6,9,10,11,26,27],hτ:=(fs [yp,(.box ya),.bool,yg,yb,yb,yb,yb]),ex:=2,ot:= [3,5,6,9,10,11],oτ:=(fs [yp,(.box ya),.bool,yg,yb,yb]),hal:= [(25,3)]}
abbrev ztF:LoopH:= {key:=116,ht:= [0,5,8,9,10],hτ:=(fs [yo,yh,yc,yb,yb]),ex:=0,ot:= [5],oτ:=(fs [yh])}
abbrev zs3:LoopH:= {key:=116,ht:= [0,5,8,9,10],hτ:=(fs [yo,yp,yg,yb,yb]),ex:=0,ot:= [5],oτ:=(fs [yp])}
abbrev zvd:LoopH:= {key:=56,ht:= [0,1,5],hτ:=(fs [yh,yb,yb]),ex:=0,ot:= [0,1,5],oτ:=(fs [yh,yb,yb])}
abbrev zuB:LoopH:= {key:=116,ht:= [3,6,7,8],hτ:=(fs [yh,yc,yb,yb]),ex:=0,ot:= [3],oτ:=(fs [yh])}
abbrev zuA:LoopH:= {key:=116,ht:= [3,8,9,10],hτ:=(fs [yh,yg,yb,yb]),ex:=0,ot:= [3],oτ:=(fs [yh])}
abbrev zqS:LoopH:= {key:=29900,ht:= [3,8,9,10,20,21,22],hτ:=(fs [yh,yg,yb,yb,yh,yb,yb]),ex:=2,ot:= [3,8,9,10],oτ:=(fs [yh,yg,yb,yb])}
abbrev ztD:LoopH:= {key:=116,ht:= [1,5,11,12],hτ:=(fs [yb,yh,yb,yb]),ex:=0,ot:= [5],oτ:=(fs [yh]),hal:= [(10,5)]}
abbrev zsb:LoopH:= {key:=244,ht:= [3,8,9,14,15,16],hτ:=(fs [yk,yb,yp,yg,yb,yb]),ex:=0,ot:= [3,9],oτ:=(fs [yk,yp])}
abbrev ztf:LoopH:= {key:=52,ht:= [2,3,4,11,12,13],hτ:=(fs [yc,yc,yk,yo,yb,yb]),ex:=0,ot:= [2,3,4],oτ:=(fs [yc,yc,yk])}
abbrev zsZ:LoopH:= {key:=500,ht:= [0,1,2,7,8,17,18],hτ:=(fs [yo,yb,yc,yn,yn,yb,yb]),ex:=0,ot:= [1,2,8],oτ:=(fs [yb,yc,yn])}
abbrev ztn:LoopH:= {key:=60,ht:= [1,2,3,8,9,10],hτ:=(fs [yc,yc,yk,yn,yh,yh]),ex:=999,ot:= [],oτ:=(fs [])}
abbrev zru:LoopH:= {key:=3864,ht:= [1,2,3,8,9,10,11],hτ:=(fs [yc,yc,yk,yn,yh,yh,yb]),ex:=2,ot:= [1,2,3,8,9,10,11],oτ:=(fs [yc,yc,yk,yn,yh,yh,yb])}
abbrev ztz:LoopH:= {key:=116,ht:= [1,5,8,9,10],hτ:=(fs [yb,yb,yc,yb,yb]),ex:=0,ot:= [5],oτ:=(fs [yb])}
abbrev zr4:LoopH:= {key:=52,ht:= [0,1,8,9,10],hτ:=(fs [yc,yc,yh,yb,yb]),ex:=0,ot:= [],oτ:=(fs [])}
abbrev zqs:LoopH:= {key:=244,ht:= [0,1,23,24],hτ:=(fs [yc,yc,yb,yb]),ex:=0,ot:= [],oτ:=(fs [])}
abbrev ztb:LoopH:= {key:=244,ht:= [5,6,16,17,18],hτ:=(fs [yn,yn,yo,yb,yb]),ex:=0,ot:= [6],oτ:=(fs [yn])}
abbrev zqt:LoopH:= {key:=250676,ht:= [5,6,8,9,16,17,18,23,24],hτ:=(fs [yn,yn,yc,yb,yo,yb,yb,yb,yb]),ex:=2,ot:= [5,6,8,9,16,17,18],oτ:=(fs [yn,yn,yc,yb,yo,yb,yb]),hal:= [(22,5)]}
abbrev zuF:LoopH:= {key:=52,ht:= [0,10,11,12],hτ:=(fs [yo,yo,yb,yb]),ex:=0,ot:= [0],oτ:=(fs [yo])}
abbrev zrO:LoopH:= {key:=54068,ht:= [0,6,7,10,11,12,16,17,18],hτ:=(fs [yo,yc,.bool,yo,yb,yb,yo,yb,yb]),ex:=2,ot:= [0,7,10,11,12],oτ:=(fs [yo,.bool,yo,yb,yb])}
abbrev zrF:LoopH:= {key:=52,ht:= [0,1,7,8,9],hτ:=(fs [yg,yb,yg,yb,yb]),ex:=0,ot:= [],oτ:=(fs [])}
abbrev zpm:LoopH:= {key:=262132,ht:= [4,7,10,14,15,16,17,18,19,20,128,129],hτ:=yE,ex:=0,ot:= [4,7,10,14,15,16,17,18,19,20],oτ:=(fs [yk,(.box yi),yc,yc,yc,yc,yo,yp,yp,yp]),hal:= [(127,18)]}
abbrev zpF:LoopH:= {key:=524276,ht:= [4,7,10,14,15,16,17,18,19,20,144,145],hτ:=yE,ex:=2,ot:= [4,7,10,14,15,16,17,18,19,20],oτ:=(fs [yk,(.box yi),yc,yc,yc,yc,yo,yp,yp,yp]),hal:= [(143,19)]}
abbrev zs7:LoopH:= {key:=56,ht:= [1,2,3,4,10,11],hτ:=(fs [yn,yc,yc,yk,yb,yb]),ex:=0,ot:= [1],oτ:=(fs [yn])}
abbrev zvM:LoopH:= {key:=500,ht:= [1,12,29,30,31],hτ:=(fs [yc,yh,yh,yb,yb]),ex:=0,ot:= [1,12],oτ:=(fs [yc,yh])}
abbrev zup:LoopH:= {key:=52,ht:= [1,2,3,10],hτ:=(fs [yc,yg,yk,yb]),ex:=0,ot:= [],oτ:=(fs [])}
abbrev zrW:LoopH:= {key:=6732,ht:= [1,2,3,10,11,30,31,32],hτ:=(fs [yc,yg,yk,yb,yh,yg,yb,yb]),ex:=2,ot:= [1,2,3,10],oτ:=(fs [yc,yg,yk,yb])}
abbrev zqF:LoopH:= {key:=1723596,ht:= [1,2,3,10,11,12,13,14,30,31,32],hτ:=(fs [yc,yg,yk,yb,yh,yb,(.box ya),yb,yg,yb,yb]),ex:=4,ot:= [1,2,3,10,11,30,31,32],oτ:=(fs [yc,yg,yk,yb,yh,yg,yb,yb])}
abbrev zrY:LoopH:= {key:=60,ht:= [2,3,8,9],hτ:=(fs [yg,yk,yh,yb]),ex:=999,ot:= [],oτ:=(fs [])}
abbrev zrG:LoopH:= {key:=244,ht:= [2,3,8,9,16,17,18],hτ:=(fs [yg,yk,yp,yb,yg,yb,yb]),ex:=0,ot:= [8,9],oτ:=(fs [yp,yb])}
abbrev zul:LoopH:= {key:=116,ht:= [1,2,3,5,6,14,28,29,30],hτ:=(fs [yr,yu,yb,yc,yk,yy,yc,yb,yb]),ex:=0,ot:= [1,3,5,6,14],oτ:=(fs [yr,yb,yc,yk,yy])}
abbrev zpy:LoopH:= {key:=8290260,ht:= [6,14,25,196,197,198],hτ:=(fs [yk,yr,yp,yr,yb,yb]),ex:=3,ot:= [6,14,25],oτ:=(fs [yk,yr,yp])}
abbrev zrX:LoopH:= {key:=116,ht:= [3,6,7,8],hτ:=(fs [yb,yg,yb,yb]),ex:=0,ot:= [3],oτ:=(fs [yb])}
abbrev zro:LoopH:= {key:=244,ht:= [0,7,17,18,19],hτ:=(fs [yu,yb,yc,yb,yb]),ex:=0,ot:= [7],oτ:=(fs [yb])}
abbrev zuh:LoopH:= {key:=116,ht:= [1,5,8,9,10],hτ:=(fs [yb,yh,yc,yb,yb]),ex:=0,ot:= [5],oτ:=(fs [yh])}
abbrev zpk:LoopH:= {key:=52,ht:= [0,7,8,9],hτ:=(fs [yg,yg,yb,yb]),ex:=0,ot:= [],oτ:=(fs [])}
abbrev zns:LoopH:= {key:=27036,ht:= [0,4,7,8,9,25,26,27],hτ:=(fs [yg,(.box ya),yg,yb,yb,yg,yb,yb]),ex:=2,ot:= [0,7,8,9],oτ:=(fs [yg,yg,yb,yb])}
abbrev zuf:LoopH:= {key:=116,ht:= [3,6,7,8],hτ:=(fs [yn,yo,yb,yb]),ex:=0,ot:= [3],oτ:=(fs [yn])}
abbrev zqA:LoopH:= {key:=116,ht:= [1,2,3,4,5,26,27,28],hτ:=(fs [yg,yg,yb,yo,yk,yg,yb,yb]),ex:=0,ot:= [],oτ:=(fs [])}
abbrev znT:LoopH:= {key:=29900,ht:= [1,2,3,4,5,13,14,26,27,28],hτ:=(fs [yg,yg,yb,yo,yk,(.box ya),yb,yg,yb,yb]),ex:=2,ot:= [1,2,3,4,5,26,27,28],oτ:=(fs [yg,yg,yb,yo,yk,yg,yb,yb])}
abbrev zun:LoopH:= {key:=500,ht:= [8,33,34],hτ:=(fs [yn,yb,yb]),ex:=0,ot:= [8],oτ:=(fs [yn])}
abbrev zpw:LoopH:= {key:=116,ht:= [1,3,13,14,15],hτ:=(fs [yg,yk,yr,yb,yb]),ex:=0,ot:= [],oτ:=(fs [])}
abbrev zty:LoopH:= {key:=116,ht:= [0,5,8,9,10],hτ:=(fs [yu,yh,yc,yb,yb]),ex:=0,ot:= [5],oτ:=(fs [yh])}
abbrev zrh:LoopH:= {key:=116,ht:= [1,2,3,5,6,14,28,29,30],hτ:=(fs [yr,(.own ye),yb,yc,yk,yy,yc,yb,yb]),ex:=0,ot:= [1,2,3,5,6,14],oτ:=(fs [yr,(.own ye),yb,yc,yk,yy])}
abbrev znz:LoopH:= {key:=8290260,ht:= [2,6,14,25,196,197,198],hτ:=(fs [(.own ye),yk,yr,yp,yr,yb,yb]),ex:=3,ot:= [2,6,14,25],oτ:=(fs [(.own ye),yk,yr,yp])}
abbrev zmS:LoopH:= {key:=244,ht:= [0,1,5,6,25,26],hτ:=(fs [ym,yb,yh,yp,yb,yb]),ex:=0,ot:= [0,1,5,6],oτ:=(fs [ym,yb,yh,yp]),hal:= [(24,5)]}
abbrev zrC:LoopH:= {key:=244,ht:= [1,2,6,7,18,19],hτ:=(fs [yg,yk,yh,yz,yb,yb]),ex:=0,ot:= [6,7],oτ:=(fs [yh,yz])}
abbrev zpu:LoopH:= {key:=125340,ht:= [1,2,6,7,8,11,18,19],hτ:=(fs [yg,yk,yh,yz,yb,yb,yb,yb]),ex:=2,ot:= [1,2,6,7,18,19],oτ:=(fs [yg,yk,yh,yz,yb,yb])}
abbrev znU:LoopH:= {key:=8021796,ht:= [1,2,6,7,8,11,18,19,40,41],hτ:=(fs [yg,yk,yh,yz,yb,yb,yb,yb,yb,yb]),ex:=4,ot:= [1,2,6,7,8,11,18,19],oτ:=(fs [yg,yk,yh,yz,yb,yb,yb,yb])}
abbrev zmc:LoopH:= {key:=2053579980,ht:= [1,2,6,7,8,11,12,13,18,19,40,41],hτ:=(fs [yg,yk,yh,yz,yb,yb,yb,yb,yb,yb,yb,yb]),ex:=6,ot:= [1,2,6,7,8,11,18,19,40,41],oτ:=(fs [yg,yk,yh,yz,yb,yb,yb,yb,yb,yb])}
abbrev ztl:LoopH:= {key:=500,ht:= [5,6,18,19],hτ:=(fs [yp,yp,yb,yb]),ex:=0,ot:= [],oτ:=(fs [])}
abbrev znD:LoopH:= {key:=244,ht:= [0,9,41,42],hτ:=(fs [yB,(.box yF),yb,yb]),ex:=0,ot:= [0,9],oτ:=(fs [yB,(.box yF)]),hal:= [(40,262144)]}
abbrev zux:LoopH:= {key:=116,ht:= [1,2,3,7,20,21],hτ:=(fs [yg,yg,yk,yz,yb,yb]),ex:=0,ot:= [7],oτ:=(fs [yz])}
abbrev zrp:LoopH:= {key:=29900,ht:= [1,2,3,7,8,9,20,21],hτ:=(fs [yg,yg,yk,yz,yb,yb,yb,yb]),ex:=2,ot:= [1,2,3,7,20,21],oτ:=(fs [yg,yg,yk,yz,yb,yb])}
abbrev zqN:LoopH:= {key:=1913636,ht:= [1,2,3,7,8,9,20,21,28,29,30],hτ:=(fs [yg,yg,yk,yz,yb,yb,yb,yb,yg,yb,yb]),ex:=4,ot:= [1,2,3,7,8,9,20,21],oτ:=(fs [yg,yg,yk,yz,yb,yb,yb,yb])}
abbrev zom:LoopH:= {key:=489891020,ht:= [1,2,3,7,8,9,10,11,12,20,21,28,29,30],hτ:=(fs [yg,yg,yk,yz,yb,yb,yb,(.box ya),yb,yb,yb,yg,yb,yb]),ex:=6,ot:= [1,2,3,7,8,9,20,21,28,29,30],oτ:=(fs [yg,yg,yk,yz,yb,yb,yb,yb,yg,yb,yb])}
abbrev zm3:LoopH:= {key:=62706050636,ht:= [1,2,3,7,8,9,10,11,12,20,21,28,29,30,46,47],hτ:=(fs [yg,yg,yk,yz,yb,yb,yb,(.box ya),yb,yb,yb,yg,yb,yb,yb,yb]),ex:=8,ot:= [1,2,3,7,8,9,10,11,12,20,21,28,29,30],oτ:=(fs [yg,yg,yk,yz,yb,yb,yb,(.box ya),yb,yb,yb,yg,yb,yb])}
abbrev zqw:LoopH:= {key:=52,ht:= [0,1,2,31,32,33],hτ:=(fs [yB,yb,yb,yz,yb,yb]),ex:=0,ot:= [0],oτ:=(fs [yB])}
abbrev zqG:LoopH:= {key:=116,ht:= [0,1,6,30,31,32],hτ:=(fs [ym,yb,yz,yh,yb,yb]),ex:=0,ot:= [0,1,6],oτ:=(fs [ym,yb,yz])}
abbrev zpi:LoopH:= {key:=244,ht:= [0,1,44,45,46],hτ:=(fs [ym,yb,yz,yb,yb]),ex:=2,ot:= [0,1],oτ:=(fs [ym,yb])}
abbrev zpt:LoopH:= {key:=1012,ht:= [0,1,82,83],hτ:=(fs [ym,yb,yb,yb]),ex:=4,ot:= [0],oτ:=(fs [ym]),hal:= [(81,327680)]}
abbrev znP:LoopH:= {key:=2036,ht:= [0,1,5,6,35,36],hτ:=(fs [ym,yb,yg,yy,yb,yb]),ex:=0,ot:= [0,1,5,6],oτ:=(fs [ym,yb,yg,yy]),hal:= [(34,327680)]}
abbrev ztr:LoopH:= {key:=116,ht:= [1,2,3,6,7,18,19],hτ:=(fs [yr,yb,yk,(.box yx),ym,yb,yb]),ex:=0,ot:= [2,6,7],oτ:=(fs [yb,(.box yx),ym])}
abbrev zsY:LoopH:= {key:=124,ht:= [2,6,7,11],hτ:=(fs [yb,(.box yx),ym,yb]),ex:=999,ot:= [],oτ:=(fs [])}
abbrev zoS:LoopH:= {key:=4084,ht:= [0,2,3,5,10,11],hτ:=(fs [yf,yb,yb,yk,yh,yb]),ex:=0,ot:= [0,10],oτ:=(fs [yf,yh])}
abbrev zoO:LoopH:= {key:=116,ht:= [0,3,5,6],hτ:=(fs [yf,yk,yp,yb]),ex:=0,ot:= [0,3,5],oτ:=(fs [yf,yk,yp])}
abbrev znB:LoopH:= {key:=8104,ht:= [0,3,5],hτ:=(fs [yf,yk,yp]),ex:=3,ot:= [0,5],oτ:=(fs [yf,yp])}
abbrev zop:LoopH:= {key:=116,ht:= [0,4,7,8],hτ:=(fs [yf,yk,yy,yb]),ex:=0,ot:= [0,7],oτ:=(fs [yf,yy])}
abbrev znG:LoopH:= {key:=500,ht:= [0,2,4,5,6],hτ:=(fs [yf,yq,yq,yy,yb]),ex:=0,ot:= [0,2,4,5],oτ:=(fs [yf,yq,yq,yy])}
abbrev zmb:LoopH:= {key:=128148,ht:= [0,2,4,5,6,7,8],hτ:=(fs [yf,yq,yq,yy,yb,yp,yb]),ex:=2,ot:= [0,2,4,5,6,7],oτ:=(fs [yf,yq,yq,yy,yb,yp])}
abbrev zbL:LoopH:= {key:=52,ht:= [0,1,7,8],hτ:=(fs [yr,(.fn 131 yv),yb,yb]),ex:=0,ot:= [],oτ:=(fs [])}
abbrev zbU:LoopH:= {key:=52,ht:= [0,1,7,8],hτ:=(fs [yu,(.fn 154 yv),yb,yb]),ex:=0,ot:= [],oτ:=(fs [])}
abbrev zeP:LoopH:= {key:=52,ht:= [0,1,7,8],hτ:=(fs [yc,(.fn 155 (fs [(.ptr yu)])),yb,yb]),ex:=0,ot:= [],oτ:=(fs [])}
abbrev zoJ:LoopH:= {key:=116,ht:= [1,5,8,9,10],hτ:=(fs [(.sl .opq),(.own (.agg (fs [.bool,.opq,.opq]))),yg,yb,yb]),ex:=0,ot:= [5],oτ:=(fs [(.own (.agg (fs [.bool,.opq,.opq])))])}
abbrev zto:LoopH:= {key:=244,ht:= [3,4,15,16,17],hτ:=(fs [(.map yb),(.own yh),yo,yb,yb]),ex:=0,ot:= [4],oτ:=(fs [(.own yh)])}
abbrev zre:LoopH:= {key:=125340,ht:= [3,4,5,15,16,17,27,28,29],hτ:=(fs [(.map yb),(.own yh),yb,yo,yb,yb,yc,yb,yb]),ex:=2,ot:= [3,4,15,16,17],oτ:=(fs [(.map yb),(.own yh),yo,yb,yb])}
abbrev zcW:LoopH:= {key:=52,ht:= [0,1,7,8],hτ:=(fs [yg,(.fn 288 (fs [(.ptr ya)])),yb,yb]),ex:=0,ot:= [],oτ:=(fs [])}
abbrev zwc:LoopH:= {key:=116,ht:= [3,6,7,8],hτ:=(fs [yp,yg,yb,yb]),ex:=0,ot:= [3],oτ:=(fs [yp])}
abbrev zl7:LoopH:= {key:=116,ht:= [0,3,9,10,11],hτ:=(fs [yo,yb,yo,yb,yb]),ex:=0,ot:= [0,3],oτ:=(fs [yo,yb])}
abbrev zlP:LoopH:= {key:=500,ht:= [6,25,26,27],hτ:=(fs [yh,yo,yb,yb]),ex:=2,ot:= [6],oτ:=(fs [yh])}
abbrev zvI:LoopH:= {key:=116,ht:= [0,6,9,10,11],hτ:=(fs [yo,yh,yc,yb,yb]),ex:=0,ot:= [6],oτ:=(fs [yh])}
abbrev zvs:LoopH:= {key:=116,ht:= [1,5,8,9,10],hτ:=(fs [yb,yb,yc,yb,yb]),ex:=0,ot:= [5],oτ:=(fs [yb])}
abbrev zqu:LoopH:= {key:=52,ht:= [0,1,6],hτ:=(fs [yc,yc,yb]),ex:=0,ot:= [],oτ:=(fs [])}
abbrev zqz:LoopH:= {key:=244,ht:= [1,23,24,25],hτ:=(fs [yc,yc,yb,yb]),ex:=0,ot:= [],oτ:=(fs [])}
abbrev zn4:LoopH:= {key:=1012,ht:= [1,12,41,42],hτ:=(fs [yc,yh,yb,yb]),ex:=0,ot:= [12],oτ:=(fs [yh]),hal:= [(40,12)]}
abbrev zqX:LoopH:= {key:=52,ht:= [1,2,3,10],hτ:=(fs [yc,yg,yk,yb]),ex:=0,ot:= [],oτ:=(fs [])}
abbrev zpc:LoopH:= {key:=6732,ht:= [1,2,3,10,11,30,31,32],hτ:=(fs [yc,yg,yk,yb,yh,yg,yb,yb]),ex:=2,ot:= [1,2,3,10],oτ:=(fs [yc,yg,yk,yb])}
abbrev zn9:LoopH:= {key:=1723596,ht:= [1,2,3,10,11,12,13,30,31,32,37],hτ:=(fs [yc,yg,yk,yb,yh,yb,(.box ya),yg,yb,yb,yb]),ex:=4,ot:= [1,2,3,10,11,30,31,32],oτ:=(fs [yc,yg,yk,yb,yh,yg,yb,yb])}
abbrev zpj:LoopH:= {key:=60,ht:= [1,2,3,8],hτ:=(fs [yh,yg,yk,yb]),ex:=999,ot:= [],oτ:=(fs [])}
abbrev zlh:LoopH:= {key:=244,ht:= [1,2,3,8,9,16,17],hτ:=(fs [yg,yg,yk,(.own (.mv yb)),yb,yb,yb]),ex:=0,ot:= [1,8,9],oτ:=(fs [yg,(.own (.mv yb)),yb]),hal:= [(15,8)]}
abbrev zvu:LoopH:= {key:=116,ht:= [1,5,11,12],hτ:=(fs [yb,yh,yb,yb]),ex:=0,ot:= [5],oτ:=(fs [yh]),hal:= [(10,5)]}
abbrev zcH:LoopH:= {key:=52,ht:= [0,1,7,8],hτ:=(fs [yo,(.fn 315 yv),yb,yb]),ex:=0,ot:= [],oτ:=(fs [])}
abbrev zpK:LoopH:= {key:=500,ht:= [2,3,8,10,29,30],hτ:=(fs [yg,yk,yb,(.own (.mv yb)),yb,yb]),ex:=0,ot:= [2,3,10],oτ:=(fs [yg,yk,(.own (.mv yb))]),hal:= [(28,10)]}
abbrev zqH:LoopH:= {key:=28,ht:= [1,2,3,8],hτ:=(fs [yc,yc,yk,yn]),ex:=999,ot:= [],oτ:=(fs [])}
abbrev zpq:LoopH:= {key:=904,ht:= [1,2,3,8,9],hτ:=(fs [yc,yc,yk,yn,yb]),ex:=2,ot:= [1,2,3,8,9],oτ:=(fs [yc,yc,yk,yn,yb])}
abbrev zm4:LoopH:= {key:=3735540,ht:= [1,2,3,8,10,11,12,147,148],hτ:=(fs [yh,yh,yk,yn,yb,yc,yn,yb,yb]),ex:=5,ot:= [1,2,3,8,10,11],oτ:=(fs [yh,yh,yk,yn,yb,yc]),hal:= [(146,8)]}
abbrev zpz:LoopH:= {key:=116,ht:= [0,1,6,13,14],hτ:=(fs [yo,yg,(.own (.mv yb)),yb,yb]),ex:=0,ot:= [1,6],oτ:=(fs [yg,(.own (.mv yb))]),hal:= [(12,6)]}
abbrev zhb:LoopH:= {key:=116,ht:= [0,3,9,10,11],hτ:=(fs [yr,yb,yr,yb,yb]),ex:=0,ot:= [0,3],oτ:=(fs [yr,yb])}
abbrev zgP:LoopH:= {key:=500,ht:= [6,25,26,27],hτ:=(fs [yp,yr,yb,yb]),ex:=2,ot:= [6],oτ:=(fs [yp])}
abbrev zc6:LoopH:= {key:=52,ht:= [0,1,7,8],hτ:=(fs [yo,(.fn 333 (fs [yA])),yb,yb]),ex:=0,ot:= [],oτ:=(fs [])}
abbrev zrQ:LoopH:= {key:=52,ht:= [0,7,8,9],hτ:=(fs [yo,yo,yb,yb]),ex:=0,ot:= [0],oτ:=(fs [yo])}
abbrev zcN:LoopH:= {key:=52,ht:= [0,1,7,8],hτ:=(fs [yo,(.fn 327 (fs [yA])),yb,yb]),ex:=0,ot:= [],oτ:=(fs [])}
abbrev zn2:LoopH:= {key:=244,ht:= [5,6,12,13,14],hτ:=(fs [yn,yn,yo,yb,yb]),ex:=0,ot:= [5,6],oτ:=(fs [yn,yn])}
abbrev zrt:LoopH:= {key:=52,ht:= [0,1,7,8,9],hτ:=(fs [yg,yb,yg,yb,yb]),ex:=0,ot:= [],oτ:=(fs [])}
abbrev znH:LoopH:= {key:=8060852,ht:= [6,10,14,16,17],hτ:=(fs [yk,yA,(.fn 184 (fs [(.ptr yu),yA])),yp,yb]),ex:=1,ot:= [6,14,16],oτ:=(fs [yk,(.fn 184 (fs [(.ptr yu),yA])),yp])}
abbrev zs0:LoopH:= {key:=52,ht:= [1,2,7,8,9],hτ:=(fs [yu,yk,yu,yb,yb]),ex:=0,ot:= [1,2],oτ:=(fs [yu,yk])}
abbrev zrL:LoopH:= {key:=116,ht:= [2,15,16,17],hτ:=(fs [yk,yo,yb,yb]),ex:=0,ot:= [],oτ:=(fs [])}
abbrev zpg:LoopH:= {key:=116,ht:= [0,3,5,6],hτ:=(fs [yf,yk,yn,yb]),ex:=0,ot:= [0,5],oτ:=(fs [yf,yn])}
abbrev zpl:LoopH:= {key:=116,ht:= [1,2,3,19,20,21],hτ:=(fs [yg,yr,yk,yr,yb,yb]),ex:=0,ot:= [1,2,3],oτ:=(fs [yg,yr,yk])}
abbrev zn8:LoopH:= {key:=500,ht:= [2,6,7,9,10,11],hτ:=(fs [yq,yf,yk,yu,yh,yb]),ex:=0,ot:= [2,6,7,9,10],oτ:=(fs [yq,yf,yk,yu,yh])}
abbrev zuE:LoopH:= {key:=116,ht:= [3,7,8,9],hτ:=(fs [yb,yn,yb,yb]),ex:=0,ot:= [3],oτ:=(fs [yb])}
abbrev zui:LoopH:= {key:=116,ht:= [0,1,2,7,10,11,12],hτ:=(fs [yu,yc,yb,yb,yc,yb,yb]),ex:=0,ot:= [7],oτ:=(fs [yb])}
abbrev zts:LoopH:= {key:=116,ht:= [0,5,8,9,10],hτ:=(fs [yu,yh,yc,yb,yb]),ex:=0,ot:= [5],oτ:=(fs [yh])}
abbrev zw9:LoopH:= {key:=52,ht:= [1,7,8,9],hτ:=(fs [yb,yc,yb,yb]),ex:=0,ot:= [],oτ:=(fs [])}
abbrev zrJ:LoopH:= {key:=65204,ht:= [0,1,5,7,11,15,16,17,105,106,107],hτ:=(fs [yw,yw,yk,yu,(.box ye),yt,.bool,.bool,yc,yb,yb]),ex:=0,ot:= [0,1,5,11,15,16,17],oτ:=(fs [yw,yw,yk,(.box ye),yt,.bool,.bool])}
def psT:List (Nat×Ty):= [
  (229,(fs [yg,(.own yh)])),
  (38654705893,(fs [yg,(.sl .opq)])),
  (5,(fs [yw,yw])),
  (10,(fs [yd,yr,yb])),
  (21,(fs [yw,yw])),
  (23,(fs [yc,yc])),
  (24,(fs [yu,yu])),
  (27,(fs [yd,yw])),
  (28,(fs [yd,ys,yr])),
  (29,(fs [yd,yg,yr])),
  (30,(fs [yw])),
  (31,(fs [yd,yr,yu,yb,yc,yc])),
  (32,(fs [yd,yr,yu,yb,yc,yc])),
  (33,(fs [yd,ys,yg])),
  (34,(fs [yw])),
  (35,(fs [yd,yg,yr])),
  (36,(fs [yw])),
  (37,(fs [yd,yu,yc,yb])),
  (38,(fs [yd,yu,yc,yb])),
  (39,(fs [yw])),
  (40,(fs [yd,yu,yc])),
  (41,(fs [yd,yu,yc])),
  (42,(fs [yc,yb])),
  (61,(fs [yd,yr])),
  (62,(fs [yb,yb,yb])),
  (63,(fs [yd,yr,yb])),
  (66,(fs [yd])),
  (67,(fs [yd,yr])),
  (77,(fs [yf])),
  (79,(fs [yg,yg])),
  (83,(fs [yw])),
  (84,(fs [yd,yg])),
  (86,(fs [yg,(.ptr yd)])),
  (87,(fs [yd,yg])),
  (88,(fs [yd,yg,yr])),
  (89,(fs [yf])),
  (90,(fs [yf,yb])),
  (91,(fs [yf,yb])),
  (92,(fs [yc])),
  (93,(fs [yd,yu])),
  (94,(fs [yu,yc])),
  (95,(fs [yd,yr,yu,yb,yc,yc])),
  (96,(fs [yd,yu])),
  (97,(fs [yd,yr,yu,yb,yc,yc])),
  (98,(fs [yd,ys])),
  (99,(fs [yd,yg])),
  (100,(fs [yd,ys,yg])),
  (101,(fs [yw])),
  (102,(fs [yf,yd,yb])),
  (103,(fs [yd,yg])),
  (104,(fs [yd,yg])),
  (105,(fs [yd,yg,yr])),
  (106,(fs [yu,yc,yb])),
  (107,(fs [yc,yb,yb])),
  (108,(fs [yu,yc,yb])),
  (109,(fs [yu,yc])),
  (110,(fs [yu,yc])),
  (118,(fs [yc,yb])),
  (119,(fs [ya])),
  (123,(fs [yh,yb])),
  (125,(fs [yd])),
  (126,(fs [yc,yb])),
  (127,(fs [(.box (.agg (fs [yd,yr,yx,yh]))),yb])),
  (130,(fs [yb])),
  (131,(fs [yg,(.ptr yd)])),
  (137,(fs [yf])),
  (138,(fs [yf,yc])),
  (139,(fs [yf,yb])),
  (140,(fs [yc,yc])),
  (141,(fs [yd,yr,yu,yb,yc,yc])),
  (147,(fs [ya,(.ptr yd)])),
  (148,(fs [yd,ya])),
  (149,(fs [yg])),
  (150,(fs [yg,(.ptr yd),(.ptr yg)])),
  (151,(fs [yd,yg,yg])),
  (152,(fs [yf])),
  (154,(fs [ye,(.ptr yd)])),
  (155,(fs [yb,(.ptr yu)])),
  (156,(fs [yd,yr,yu,yb,yc,yc])),
  (157,(fs [yd,ys])),
  (158,(fs [yo])),
  (159,(fs [yg])),
  (160,(fs [yd,ys,yg,yc])),
  (161,(fs [yf,yd])),
  (162,(fs [yd,yo,yg])),
  (163,(fs [yf,yd])),
  (164,(fs [yf,yd])),
  (165,(fs [yd,ya])),
  (166,(fs [yg])),
  (167,(fs [yd,yg,yg])),
  (168,(fs [yg])),
  (169,(fs [yg])),
  (170,(fs [yg])),
  (171,(fs [yg])),
  (174,(fs [yg])),
  (177,(fs [(.box (.agg (fs [yd,yr,yx,yh]))),yb])),
  (178,(fs [(.box (.agg (fs [yd,yr,yx,yh]))),yb])),
  (181,(fs [yd,yg,yg])),
  (183,(fs [yf,yd,yb,yb])),
  (184,(fs [yb,(.ptr yu),yA])),
  (185,(fs [yb,yb,yA,yA])),
  (186,(fs [yg])),
  (187,(fs [yD,yb])),
  (188,(fs [yd,yg,yg,yi])),
  (189,(fs [yd,yg,yb])),
  (190,(fs [yd,yg,yi])),
  (193,(fs [yc,yc])),
  (195,(fs [yd,yc])),
  (196,(fs [ya,(.ptr ya)])),
  (197,(fs [ya,ya])),
  (198,(fs [yd,yn,yg,yg])),
  (199,(fs [yn])),
  (200,(fs [yg])),
  (201,(fs [yd,yg,yg,yi])),
  (202,(fs [yd,yg,yb])),
  (203,(fs [yd,yg,yi])),
  (204,(fs [yd,yg,yg])),
  (205,(fs [yb])),
  (206,(fs [yb,yb])),
  (207,(fs [yb,yc])),
  (209,(fs [yc,(.ptr yb)])),
  (210,(fs [yc,yb])),
  (211,(fs [ya,(.ptr yd),(.ptr ys),yA])),
  (212,(fs [yd,ys,yc,yc])),
  (213,(fs [yd,yo])),
  (214,(fs [yd,yg])),
  (215,(fs [yo,yg])),
  (216,(fs [yd,yc])),
  (217,(fs [yc,yc])),
  (218,(fs [ya,ya])),
  (219,(fs [yd,yg,yg,yb,yn])),
  (220,(fs [yb,yc])),
  (224,(fs [yC,ye])),
  (225,(fs [yd,yg])),
  (226,(fs [yC,yb,yc,yc])),
  (227,(fs [yC,yb,yb])),
  (228,(fs [yd,yc,yg])),
  (234,(fs [yg])),
  (235,(fs [yg])),
  (236,(fs [yg,yb,.bool])),
  (237,(fs [yb])),
  (238,(fs [ya,yb])),
  (239,(fs [yd,yg,yg])),
  (240,(fs [yd,yc,yc])),
  (241,(fs [yd,yc,yb])),
  (242,(fs [yo,yg])),
  (243,(fs [yo,yc])),
  (244,(fs [yd,yc,yb,yc])),
  (245,(fs [yr])),
  (246,(fs [yg,.bool])),
  (247,(fs [yc,yc])),
  (248,(fs [yg,yb])),
  (250,(fs [yd,yb])),
  (251,(fs [yd,yo,yc,yc])),
  (252,(fs [yc,yb])),
  (253,(fs [yg])),
  (254,(fs [yg])),
  (255,(fs [yg,yb,yb])),
  (256,(fs [ya,yb])),
  (257,(fs [yd,yg,yg])),
  (258,(fs [yd,yc,yc])),
  (259,(fs [yd,yc,yb])),
  (260,(fs [yo,yc])),
  (261,(fs [yd,yc,yb,yc])),
  (262,(fs [yc,yc])),
  (263,(fs [yg,yb])),
  (264,(fs [yd,yc,yg])),
  (265,(fs [yb,(.ptr yb)])),
  (267,(fs [yd,ys,yc,yb,yc])),
  (268,(fs [yd,yc,yb])),
  (269,(fs [yd,yn,yc,yc])),
  (270,(fs [yo])),
  (282,(fs [yg,yg])),
  (283,(fs [yd,yg,yg])),
  (284,(fs [yd,yc,yg])),
  (287,(fs [yo])),
  (288,(fs [ya,(.ptr ya)])),
  (289,(fs [yc,yb])),
  (290,(fs [yd,yo])),
  (291,(fs [yd,yc,yb])),
  (292,(fs [yo])),
  (294,(fs [yc,yc])),
  (295,(fs [ya,ya])),
  (297,(fs [yo])),
  (298,(fs [yg])),
  (299,(fs [yg])),
  (300,(fs [yc,yb])),
  (301,(fs [yd,yo,yc,yc])),
  (302,(fs [yc,yb])),
  (303,(fs [yo,yb,yc])),
  (304,(fs [yc,yc])),
  (305,(fs [yo,yo])),
  (306,(fs [ya])),
  (307,(fs [yd,yc,yg])),
  (314,(fs [yd,yc,yc,yc])),
  (315,(fs [yc,(.ptr yd)])),
  (317,(fs [yc,yc])),
  (318,(fs [yo,yo])),
  (319,(fs [ya])),
  (320,(fs [yg])),
  (321,(fs [yc,yc])),
  (322,(fs [yo,yo])),
  (323,(fs [yo,yo])),
  (324,(fs [yd,yc,yc,yc])),
  (326,(fs [yc,yc])),
  (327,(fs [yc,yA])),
  (328,(fs [yn,yb,yb])),
  (329,(fs [yo,yo])),
  (330,(fs [yc])),
  (331,(fs [yc,yc])),
  (332,(fs [yc,yb])),
  (333,(fs [yc,yA])),
  (334,(fs [yc,yb])),
  (5701717,(fs [yr,(.fn 86 yv)])),
  (5701777,(fs [yr,(.fn 86 yv)])),
  (8585345,(fs [yc,(.fn 130 (fs []))])),
  (8585395,(fs [yc,(.fn 130 (fs []))])),
  (8650837,(fs [yr,(.fn 131 yv)])),
  (8650897,(fs [yr,(.fn 131 yv)])),
  (9699474,(fs [yg,(.fn 147 yv)])),
  (9699522,(fs [yg,(.fn 147 yv)])),
  (9896021,(fs [yr,(.fn 150 (fs [(.ptr yd),(.ptr yg)]))])),
  (9896081,(fs [yr,(.fn 150 (fs [(.ptr yd),(.ptr yg)]))])),
  (10158223,(fs [yu,(.fn 154 yv)])),
  (10158233,(fs [yu,(.fn 154 yv)])),
  (10223745,(fs [yc,(.fn 155 (fs [(.ptr yu)]))])),
  (10223795,(fs [yc,(.fn 155 (fs [(.ptr yu)]))])),
  (12910738,(fs [yg,(.fn 196 (fs [(.ptr ya)]))])),
  (12910786,(fs [yg,(.fn 196 (fs [(.ptr ya)]))])),
  (13762768,(fs [yo,(.fn 209 (fs [(.ptr yb)]))])),
  (13762826,(fs [yo,(.fn 209 (fs [(.ptr yb)]))])),
  (13893778,(fs [yg,(.fn 211 (fs [(.ptr yd),(.ptr ys),yA]))])),
  (13893826,(fs [yg,(.fn 211 (fs [(.ptr yd),(.ptr ys),yA]))])),
  (17432705,(fs [yc,(.fn 265 (fs [(.ptr yb)]))])),
  (17432755,(fs [yc,(.fn 265 (fs [(.ptr yb)]))])),
  (18940050,(fs [yg,(.fn 288 (fs [(.ptr ya)]))])),
  (18940098,(fs [yg,(.fn 288 (fs [(.ptr ya)]))])),
  (20709584,(fs [yo,(.fn 315 yv)])),
  (20709642,(fs [yo,(.fn 315 yv)])),
  (21496074,(fs [yo,(.fn 327 (fs [yA]))])),
  (21889232,(fs [yo,(.fn 333 (fs [yA]))])),
  (21889290,(fs [yo,(.fn 333 (fs [yA]))])),
  (4294967393,(fs [yd,yr,(.own ye),yb,yc,yc])),
  (4294967452,(fs [yd,yr,(.own ye),yb,yc,yc])),
  (4294967510,(fs [yd,yp]))]
def ioT:List (Nat×List Bool):= [
  (77,[true]),
  (89,[true]),
  (90,[true,false]),
  (91,[true,false]),
  (102,[true,false,false]),
  (127,[true,false]),
  (137,[true]),
  (138,[true,false]),
  (139,[true,false]),
  (152,[true]),
  (161,[true,false]),
  (163,[true,false]),
  (164,[true,false]),
  (177,[true,false]),
  (178,[true,false]),
  (183,[true,false,false,false]),
  (224,[true,false]),
  (226,[true,false,false,false]),
  (227,[true,false,false]),
  (4294967393,[false,false,true,false,false,false]),
  (4294967452,[false,false,true,false,false,false])]
def ioOf (f:Nat):List Bool:=(ioT.lookup f).getD (List.replicate (nFs ((psT.lookup f).getD .nil)) false)
def rsT:List (Nat×Ty):= [
  (229,(fs [yD])),
  (38654705893,(fs [(.own (.agg (fs [.bool,.opq,.opq])))])),
  (5,yj),
  (10,(fs [yx,.bool])),
  (21,yj),
  (23,yj),
  (24,yj),
  (27,(fs [(.agg (fs [yb,yn]))])),
  (28,(fs [.bool,.bool])),
  (29,(fs [.bool,.bool])),
  (30,(fs [yd,yr,yu,yb,yc,yh])),
  (31,(fs [(.agg (fs [yb,yh,yh,yD])),.bool])),
  (32,(fs [yF,.bool])),
  (33,(fs [.bool,.bool])),
  (34,(fs [yd,yp,yy])),
  (35,(fs [.bool,.bool])),
  (36,(fs [yd,yu,yh,yb])),
  (37,(fs [yb,.bool])),
  (38,(fs [yb,.bool])),
  (39,(fs [yd,yu,yh])),
  (40,(fs [yh,.bool])),
  (41,(fs [yh,.bool])),
  (42,yj),
  (61,yj),
  (62,yj),
  (63,(fs [yx])),
  (66,yj),
  (67,yj),
  (77,(fs [yd,yy])),
  (79,yj),
  (83,(fs [yb])),
  (84,yj),
  (86,yj),
  (87,yj),
  (88,yj),
  (89,(fs [yd,yr,yu])),
  (90,yj),
  (91,(fs [yb])),
  (92,(fs [yh])),
  (93,yj),
  (94,yj),
  (95,(fs [(.agg (fs [yb,yh,yh,yD])),.bool])),
  (96,yj),
  (97,(fs [yF,.bool])),
  (98,yj),
  (99,yj),
  (100,(fs [yh,.bool])),
  (101,(fs [yd,yg,yp])),
  (102,(fs [yy])),
  (103,yj),
  (104,yj),
  (105,yj),
  (106,(fs [yb])),
  (107,yj),
  (108,(fs [yb])),
  (109,(fs [yh])),
  (110,(fs [yh])),
  (118,(fs [yb])),
  (119,(fs [yl])),
  (123,(fs [yh])),
  (125,yj),
  (126,(fs [yh])),
  (127,yj),
  (130,yj),
  (131,yj),
  (137,(fs [(.agg (fs [yh]))])),
  (138,(fs [yb])),
  (139,(fs [yl])),
  (140,yj),
  (141,(fs [yD,.bool])),
  (147,yj),
  (148,yj),
  (149,yj),
  (150,yj),
  (151,(fs [yn,.bool])),
  (152,(fs [yb])),
  (154,yj),
  (155,yj),
  (156,(fs [yp,.bool])),
  (157,yj),
  (158,(fs [yh])),
  (159,(fs [yn])),
  (160,yj),
  (161,(fs [yp])),
  (162,(fs [yp,.bool])),
  (163,(fs [yo])),
  (164,(fs [yl])),
  (165,yj),
  (166,yj),
  (167,(fs [yn,.bool])),
  (168,(fs [yb])),
  (169,(fs [yb])),
  (170,yj),
  (171,yj),
  (174,(fs [yD])),
  (177,(fs [yb])),
  (178,yj),
  (181,(fs [yD,yb])),
  (183,(fs [yh])),
  (184,(fs [yg])),
  (185,yj),
  (186,(fs [yD])),
  (187,(fs [yD,.bool])),
  (188,(fs [yD,yb])),
  (189,(fs [yD,yb])),
  (190,(fs [yD,yb])),
  (193,yj),
  (195,yj),
  (196,yj),
  (197,yj),
  (198,(fs [yn,.bool])),
  (199,(fs [yn])),
  (200,(fs [yp])),
  (201,(fs [yp,yb])),
  (202,(fs [yp,yb])),
  (203,(fs [yp,yb])),
  (204,(fs [yp,yb])),
  (205,yj),
  (206,(fs [yb])),
  (207,yj),
  (209,yj),
  (210,yj),
  (211,yj),
  (212,(fs [yb])),
  (213,yj),
  (214,(fs [yg,.bool])),
  (215,(fs [yp])),
  (216,yj),
  (217,yj),
  (218,yj),
  (219,(fs [yn,.bool])),
  (220,(fs [yc])),
  (224,yj),
  (225,(fs [yh,yz])),
  (226,yj),
  (227,yj),
  (228,(fs [yh,yb])),
  (234,(fs [yD])),
  (235,(fs [yp])),
  (236,yj),
  (237,yj),
  (238,(fs [yc,yc])),
  (239,(fs [yD,.bool])),
  (240,(fs [yn,.bool])),
  (241,(fs [yh])),
  (242,(fs [yD,.bool])),
  (243,(fs [yh,.bool])),
  (244,(fs [yh])),
  (245,(fs [yp])),
  (246,(fs [yD,yb])),
  (247,yj),
  (248,yj),
  (250,(fs [yb])),
  (251,(fs [yn,.bool])),
  (252,yj),
  (253,(fs [yp])),
  (254,(fs [yD])),
  (255,yj),
  (256,(fs [yc,yc])),
  (257,(fs [yg,.bool])),
  (258,(fs [yn,.bool])),
  (259,(fs [yh])),
  (260,(fs [yh])),
  (261,(fs [yh])),
  (262,yj),
  (263,yj),
  (264,(fs [yh,yb])),
  (265,yj),
  (267,(fs [yb,yb])),
  (268,(fs [yb])),
  (269,(fs [yn,.bool])),
  (270,(fs [yn])),
  (282,yj),
  (283,(fs [yz])),
  (284,(fs [yh,yb,yb,.bool])),
  (287,(fs [(.own yh)])),
  (288,yj),
  (289,(fs [yh])),
  (290,yj),
  (291,(fs [yb])),
  (292,(fs [yh])),
  (294,(fs [yb])),
  (295,(fs [yb])),
  (297,(fs [yn])),
  (298,(fs [yn])),
  (299,(fs [yb])),
  (300,(fs [yh])),
  (301,yj),
  (302,yj),
  (303,(fs [yn])),
  (304,(fs [yb])),
  (305,(fs [yb])),
  (306,(fs [yn])),
  (307,(fs [yh,yb,yb,.bool])),
  (314,(fs [yh,.bool])),
  (315,yj),
  (317,yj),
  (318,(fs [yb])),
  (319,(fs [yn])),
  (320,(fs [yh])),
  (321,yj),
  (322,(fs [yn])),
  (323,yj),
  (324,(fs [yh,.bool])),
  (326,yj),
  (327,yj),
  (328,(fs [yn])),
  (329,yj),
  (330,(fs [yh])),
  (331,yj),
  (332,(fs [yb])),
  (333,yj),
  (334,(fs [yb])),
  (5701717,yj),
  (5701777,(fs [yb])),
  (8585345,yj),
  (8585395,(fs [yb])),
  (8650837,yj),
  (8650897,(fs [yb])),
  (9699474,yj),
  (9699522,(fs [yb])),
  (9896021,yj),
  (9896081,(fs [yb])),
  (10158223,(fs [yb])),
  (10158233,yj),
  (10223745,yj),
  (10223795,(fs [yb])),
  (12910738,yj),
  (12910786,(fs [yb])),
  (13762768,yj),
  (13762826,(fs [yb])),
  (13893778,yj),
  (13893826,(fs [yb])),
  (17432705,yj),
  (17432755,(fs [yb])),
  (18940050,yj),
  (18940098,(fs [yb])),
  (20709584,yj),
  (20709642,(fs [yb])),
  (21496074,(fs [yb])),
  (21889232,yj),
  (21889290,(fs [yb])),
  (4294967393,(fs [yF,.bool])),
  (4294967452,(fs [yp,.bool])),
  (4294967510,(fs [yp,.bool]))]
def capsT:List (Nat×Ty):= [
  (86,yv),
  (131,yv),
  (147,yv),
  (150,(fs [(.ptr yd),(.ptr yg)])),
  (154,yv),
  (155,(fs [(.ptr yu)])),
  (184,(fs [(.ptr yu),yA])),
  (185,(fs [yA,yA])),
  (196,(fs [(.ptr ya)])),
  (209,(fs [(.ptr yb)])),
  (211,(fs [(.ptr yd),(.ptr ys),yA])),
  (265,(fs [(.ptr yb)])),
  (288,(fs [(.ptr ya)])),
  (315,yv),
  (327,(fs [yA])),
  (333,(fs [yA]))]
def hintT:List (Nat×List (Nat×Hint)):= [
  (38654705893,[(58,.loop zoJ)]),
  (5,[(127,(.cut [0,1] (fs [yw,yw]) true [])),(4095,(.cut [1] (fs [yw]) true [])),(32602,.loop zrJ)]),
  (23,[(58,.loop zse)]),
  (24,[(58,.loop zrH)]),
  (27,[(122,.loop zr7),(62668,.loop zqq),(250684,.loop zpb)]),
  (28,[(58,.loop zth)]),
  (30,[(491,(.cut [2,9,10,11,12,13] (fs [yq,yk,yr,yu,(.box ye),yh]) true []))]),
  (34,[(31,(.cut [2,6,8,9] (fs [yq,yk,yp,yy]) true []))]),
  (35,[(58,.loop zpl)]),
  (36,[(250,.loop zn8)]),
  (42,[(26,.loop zw9)]),
  (61,[(26,.loop zr6)]),
  (63,[(58,.loop ztr),(62,.loop zsY)]),
  (77,[(63,(.cut [0,2,4,5] (fs [yf,yq,yq,yy]) true [])),(250,.loop znG),(64074,.loop zmb)]),
  (79,[(58,.loop zsa)]),
  (83,[(58,.loop zr3)]),
  (89,[(31,(.cut [0,2,5,6,9] (fs [yf,yq,yk,yr,yu]) true []))]),
  (91,[(15,(.cut [0,1,5] (fs [yf,yb,yb]) true []))]),
  (96,[(26,.loop zs0)]),
  (100,[(30,.loop zoP),(1932,.loop znN)]),
  (101,[(1013,(.cut [2,6,7,8] (fs [yq,yk,yg,yp]) true []))]),
  (102,[(58,.loop zop)]),
  (104,[(26,.loop zr5)]),
  (105,[(58,.loop zpw)]),
  (106,[(58,.loop zui),(467,(.cut [0,1,2,7,10,11,12] (fs [yu,yc,yb,yb,yc,yb,yb]) true []))]),
  (107,[(26,.loop zve)]),
  (108,[(122,.loop zro),(979,(.cut [0,7,17,18,19] (fs [yu,yb,yc,yb,yb]) true []))]),
  (109,[(58,.loop zts),(467,(.cut [0,5,8,9,10] (fs [yu,yh,yc,yb,yb]) true []))]),
  (110,[(58,.loop zty),(467,(.cut [0,5,8,9,10] (fs [yu,yh,yc,yb,yb]) true []))]),
  (118,[(26,.loop zmU)]),
  (123,[(28,.loop zvd)]),
  (126,[(58,.loop zuh),(467,(.cut [1,5,8,9,10] (fs [yb,yh,yc,yb,yb]) true []))]),
  (127,[(1018,.loop znP)]),
  (137,[(7,(.cut [0,2,3] (fs [yf,yq,yq]) true []))]),
  (139,[(15,(.cut [0,4,6] (fs [yf,(.box yl),(.box yl)]) true []))]),
  (141,[(15,(.cut [] (fs []) true [])),(490,(.cut [1,11,40] (fs [yr,yA,.bool]) true [])),(251900,(.cut [6,10,14,135] (fs [yk,yA,(.fn 184 (fs [(.ptr yu),yA])),.bool]) true [])),(4030426,.loop znH)]),
  (149,[(26,.loop zpe)]),
  (152,[(7,(.cut [0,3] (fs [yf,yb]) true []))]),
  (156,[(58,.loop zul),(63,(.cut [17,18] (fs [yp,yb]) true [])),(127,(.cut [12,13] (fs [yp,.bool]) true [])),(252,(.cut [1,3,5,6,14,17,18,49] (fs [yr,yb,yc,yk,yy,yp,yb,.bool]) true [])),(1011,(.cut [3,5,6,14,17,18,78] (fs [yb,yc,yk,yy,yp,yb,.bool]) true [])),(4047,(.cut [3,5,6,14,17,18,120] (fs [yb,yc,yk,yy,yp,yb,.bool]) true [])),(16191,(.cut [3,5,6,14,17,18,146] (fs [yb,yc,yk,yy,yp,yb,.bool]) true [])),(64767,(.cut [6,14,17,18,182] (fs [yk,yy,yp,yb,.bool]) true [])),(4145130,.loop zpy)]),
  (157,[(58,.loop zoM)]),
  (158,[(58,.loop zuk),(467,(.cut [0,3,5] (fs [yo,yh,yb]) true []))]),
  (159,[(58,.loop zs4)]),
  (161,[(15,(.cut [0,3,5] (fs [yf,yk,yp]) true [])),(31,(.cut [0,3,5] (fs [yf,yk,yp]) true [])),(58,.loop zoO),(63,(.cut [0,5] (fs [yf,yp]) true [])),(4052,.loop znB)]),
  (163,[(15,(.cut [0,5] (fs [yf,yo]) true [])),(58,.loop zpg)]),
  (164,[(7,(.cut [0,4,5] (fs [yf,(.box yl),(.box yl)]) true []))]),
  (166,[(26,.loop zpk),(13518,.loop zns)]),
  (167,[(250,.loop zun)]),
  (168,[(58,.loop zuE)]),
  (169,[(58,.loop zrX)]),
  (174,[(58,.loop zu6)]),
  (177,[(122,.loop zmS)]),
  (178,[(58,.loop zqG),(122,.loop zpi),(506,.loop zpt)]),
  (181,[(15,(.force 8)),(122,.loop zlh)]),
  (183,[(31,(.cut [0,2,3,5,9] (fs [yf,yb,yb,yk,yb]) true [])),(2042,.loop zoS)]),
  (188,[(15,(.force 2)),(1023,(.force 18)),(2047,(.force 20)),(65535,(.cut [7,18,20,23] (fs [(.box yi),yg,yg,yp]) true []))]),
  (189,[(31,(.force 10))]),
  (190,[(127,(.force 14))]),
  (193,[(58,.loop zmY)]),
  (195,[(122,.loop zoH)]),
  (198,[(58,.loop zoL),(467,(.cut [1,2,3,4,23,24,25] (fs [yo,yg,yg,yk,yg,yb,yb]) true [])),(29902,.loop zm2),(239219,(.cut [1,2,3,4,11,23,24,25,36] (fs [yo,yg,yg,yk,(.box ya),yg,yb,yb,yb]) true [])),(7655015,(.cut [1,2,3,4,11,15,16,23,24,25,36] (fs [yo,yg,yg,yk,(.box ya),yn,.bool,yg,yb,yb,yb]) true []))]),
  (199,[(26,.loop zv5),(211,(.cut [0,6,7] (fs [yn,yb,yb]) true [(5,0)]))]),
  (201,[(131066,.loop zpm),(262138,.loop zpF),(1048531,(.cut [4,7,10,14,15,16,17,18,19,20,128,129] yE true [(127,18)])),(16776857,(.cut [4,7,10,14,15,16,17,18,19,20,24,144,145] (fs [yk,(.box yi),yc,yc,yc,yc,yo,yp,yp,yp,(.box ya),yb,yb]) true [(143,19)]))]),
  (204,[(122,.loop zrG)]),
  (206,[(58,.loop zte)]),
  (213,[(58,.loop zrL)]),
  (215,[(58,.loop zs3)]),
  (217,[(58,.loop zuC)]),
  (219,[(58,.loop zqA),(14950,.loop znT),(59801,(.cut [1,2,3,4,5,13,14,26,27,28] (fs [yg,yg,yb,yo,yk,(.box ya),yb,yg,yb,yb]) true []))]),
  (225,[(122,.loop zrC),(7833,(.cut [1,2,6,7,8,18,19] (fs [yg,yk,yh,yz,yb,yb,yb]) true [])),(62670,.loop zpu),(4010898,.loop znU),(1026789990,.loop zmc),(4107159961,(.cut [1,2,6,7,8,11,12,13,18,19,40,41] (fs [yg,yk,yh,yz,yb,yb,yb,yb,yb,yb,yb,yb]) true []))]),
  (226,[(122,.loop znD)]),
  (227,[(26,.loop zqw)]),
  (228,[(30,.loop zpj)]),
  (235,[(58,.loop zwc),(467,(.cut [3,6,7,8] (fs [yp,yg,yb,yb]) true []))]),
  (239,[(7,(.cut [2,3,8] (fs [yg,yk,yb]) true [])),(31,(.force 10)),(250,.loop zpK)]),
  (240,[(14,.loop zqH),(452,.loop zpq),(911,(.cut [1,2,3,8,10,11] (fs [yc,yc,yk,yn,yb,yh]) true [])),(1867770,.loop zm4),(14942163,(.cut [1,2,3,8,10,11,12,147,148] (fs [yh,yh,yk,yn,yb,yc,yn,yb,yb]) true [(146,8)]))]),
  (242,[(7,(.force 6)),(58,.loop zpz)]),
  (243,[(58,.loop zvI),(3737,(.cut [0,6,9,10,11] (fs [yo,yh,yc,yb,yb]) true []))]),
  (245,[(58,.loop zhb),(250,.loop zgP)]),
  (248,[(26,.loop zrt)]),
  (251,[(122,.loop zpJ),(979,(.cut [1,3,4,10,18,19,20] (fs [yn,yc,yk,yb,yc,yb,yb]) true [])),(125343,(.cut [1,3,4,13,18,19,20] (fs [yn,yc,yk,yb,yc,yb,yb]) true []))]),
  (253,[(122,.loop zqY)]),
  (254,[(58,.loop zus),(467,(.cut [3,9,10,11] (fs [yp,yg,yb,yb]) true [])),(119610,.loop zqx)]),
  (257,[(122,.loop zsb)]),
  (258,[(30,.loop ztn),(1932,.loop zru),(30975,(.cut [1,2,3,8,14,15] (fs [yc,yc,yk,yn,yb,yh]) true []))]),
  (260,[(58,.loop ztF),(467,(.cut [0,5,8,9,10] (fs [yo,yh,yc,yb,yb]) true []))]),
  (263,[(26,.loop zrF)]),
  (264,[(30,.loop zrY)]),
  (267,[(250,.loop zqK)]),
  (268,[(28,.loop zvG),(907,(.cut [1,2,3,7] (fs [yc,yb,yk,yb]) true []))]),
  (269,[(28,.loop zs7)]),
  (270,[(58,.loop zuf)]),
  (282,[(250,.loop ztl)]),
  (283,[(58,.loop zux),(14950,.loop zrp),(956818,.loop zqN),(244945510,.loop zom),(31353025318,.loop zm3),(250824202547,(.cut [1,2,3,7,8,9,10,11,12,20,21,28,29,30,46,47] (fs [yg,yg,yk,yz,yb,yb,yb,(.box ya),yb,yb,yb,yg,yb,yb,yb,yb]) true []))]),
  (284,[(26,.loop zqX),(3366,.loop zpc),(861798,.loop zn9)]),
  (287,[(122,.loop zto),(62670,.loop zre),(501363,(.cut [3,4,5,15,16,17,27,28,29] (fs [(.map yb),(.own yh),yb,yo,yb,yb,yc,yb,yb]) true [])),(8021811,(.cut [3,4,5,7,8,15,16,17,27,28,29] (fs [(.map yb),(.own yh),yb,yb,yb,yo,yb,yb,yc,yb,yb]) true []))]),
  (289,[(58,.loop zvu),(467,(.cut [1,5,11,12] (fs [yb,yh,yb,yb]) true [(10,5)]))]),
  (291,[(26,.loop zr1)]),
  (292,[(58,.loop zl7),(250,.loop zlP)]),
  (297,[(122,.loop zri),(125338,.loop zoQ),(8021657,(.cut [3,4,7,9,12,13,14,18,19,20] (fs [yh,yn,yh,yb,yo,yb,yb,yc,yb,yb]) true [])),(128346522,.loop zmR)]),
  (298,[(58,.loop zs1)]),
  (300,[(58,.loop ztD),(467,(.cut [1,5,11,12] (fs [yb,yh,yb,yb]) true [(10,5)]))]),
  (301,[(26,.loop ztf)]),
  (302,[(26,.loop zu3)]),
  (303,[(250,.loop zsZ),(2003,(.cut [0,1,2,7,8,17,18] (fs [yo,yb,yc,yn,yn,yb,yb]) true []))]),
  (307,[(26,.loop zup),(3366,.loop zrW),(861798,.loop zqF)]),
  (314,[(506,.loop zn4)]),
  (317,[(122,.loop zqz)]),
  (318,[(122,.loop zn2),(979,(.cut [5,6,12,13,14] (fs [yn,yn,yo,yb,yb]) true []))]),
  (320,[(58,.loop zuA),(14950,.loop zqS)]),
  (321,[(122,.loop zqs)]),
  (322,[(122,.loop ztb),(979,(.cut [5,6,16,17,18] (fs [yn,yn,yo,yb,yb]) true [])),(125338,.loop zqt),(1002707,(.cut [5,6,8,9,16,17,18,23,24] (fs [yn,yn,yc,yb,yo,yb,yb,yb,yb]) true [(22,5)]))]),
  (323,[(26,.loop zuF),(27034,.loop zrO)]),
  (324,[(250,.loop zvM)]),
  (326,[(26,.loop zqu)]),
  (329,[(26,.loop zrQ)]),
  (330,[(58,.loop zuB),(467,(.cut [3,6,7,8] (fs [yh,yc,yb,yb]) true []))]),
  (331,[(26,.loop zr4)]),
  (332,[(58,.loop zvs),(467,(.cut [1,5,8,9,10] (fs [yb,yb,yc,yb,yb]) true []))]),
  (334,[(58,.loop ztz),(467,(.cut [1,5,8,9,10] (fs [yb,yb,yc,yb,yb]) true []))]),
  (5701777,[(26,.loop zbZ)]),
  (8585395,[(26,.loop zdY)]),
  (8650897,[(26,.loop zbL)]),
  (9699522,[(26,.loop zb4)]),
  (9896081,[(26,.loop zbC)]),
  (10158223,[(26,.loop zbU)]),
  (10223795,[(26,.loop zeP)]),
  (12910786,[(26,.loop zcg)]),
  (13762826,[(26,.loop zdS)]),
  (13893826,[(26,.loop zca)]),
  (17432755,[(26,.loop zdj)]),
  (18940098,[(26,.loop zcW)]),
  (20709642,[(26,.loop zcH)]),
  (21496074,[(26,.loop zcN)]),
  (21889290,[(26,.loop zc6)]),
  (4294967452,[(58,.loop zrh),(63,(.cut [2,17,18] (fs [(.own ye),yp,yb]) true [])),(127,(.cut [2,12,13] (fs [(.own ye),yp,.bool]) true [])),(252,(.cut [1,2,3,5,6,14,17,18,49] (fs [yr,(.own ye),yb,yc,yk,yy,yp,yb,.bool]) true [])),(1011,(.cut [2,3,5,6,14,17,18,78] (fs [(.own ye),yb,yc,yk,yy,yp,yb,.bool]) true [])),(4047,(.cut [2,3,5,6,14,17,18,120] (fs [(.own ye),yb,yc,yk,yy,yp,yb,.bool]) true [])),(16191,(.cut [2,3,5,6,14,17,18,146] (fs [(.own ye),yb,yc,yk,yy,yp,yb,.bool]) true [])),(64767,(.cut [2,6,14,17,18,182] (fs [(.own ye),yk,yy,yp,yb,.bool]) true [])),(4145130,.loop znz)])]
def deepT:List ((Nat×TypeId)×Ty):= [((7,60),yD),((7,139),yl),((14,22),yh),((22,139),yl),((25,62),(.agg (fs [yb,yh,yh,yD]))),((30,139),(.agg (fs [.bool,.opq,.opq])))]
def borrowT:List (Nat×TypeId):= [(15,60),(23,22),(25,22),(30,22),(32,22),(37,60),(52,22),(60,22),(67,22),(78,22),(85,22)]
def deFn (x:List (List Int)×Int×Int×Unit):Option ((List (List Int)×Unit)×Unit):=if 0<=x.2.1∧x.2.2.1=x.2.1+1∧x.2.2.1<=(List.length x.1:Int) then some ((x.1.take (Int.toNat x.2.1)++x.1.drop (Int.toNat x.2.2.1),()),()) else none
def deG:((psT.lookup 328).getD .nil).den->Option (((rsT.lookup 328).getD .nil).den×(ioTy (ioOf 328) ((psT.lookup 328).getD .nil)).den):=fun x=>deFn x
def wtFn (x:List CL×List (List Int)×Unit):Option ((List CL×Unit)×Unit):=if x.1.length<=1000000∧2*x.1.length<=x.2.1.length then some ((wtZ x.1 x.2.1,()),()) else none
def wtG:((psT.lookup 229).getD .nil).den->Option (((rsT.lookup 229).getD .nil).den×(ioTy (ioOf 229) ((psT.lookup 229).getD .nil)).den):=fun x=>wtFn x
def E1:Env:= {
  P:=Go.Proofs.Tryz.prog
  ps:=fun f=>(psT.lookup f).getD .nil
  io:=ioOf
  rs:=fun f=>(rsT.lookup f).getD .nil
  caps:=fun f=>(capsT.lookup f).getD .nil
  hint:=fun f p=>(((hintT.lookup f).getD []).lookup p).getD .none
  ext:=fun f=>if h:f=229 then some (by subst h;exact wtG) else if h:f=328 then some (by subst h;exact deG) else none
  tab:= []
  clone:=fun f=>List.lookup f [(117,22),(249,60),(296,54)]
  grow:=fun f=>List.lookup f [(293,60),(316,22)]
  deep:=fun d t=>List.lookup (d,t) deepT
  borrow:=fun d t=>List.contains borrowT (d,t)
  twin:=fun d f=>(List.lookup (d,f) [((22,214),65536),((23,156),65536),((30,97),65536),((84,97),65536)]).getD 0,hid:=fun d f=>List.lookup (d,f) [((41,226),4),((62,226),4),((89,224),4),((90,227),4),((100,227),4)],twif:=fun d f=>(List.lookup (d,f) [((23,156),3),((30,97),3),((84,97),3)]).getD 0}
def _root_.Go.Code.part:Code->List Nat->Code
  | .seq a b,d::r=>if d=0 then a.part r else b.part r
  | .cond _ a b,d::r=>if d=0 then a.part r else b.part r
  | .block _ a,_::r=>a.part r
  | .loop a,_::r=>a.part r
  | c,_=>c
def bodyOf (f:Nat):Code:=match (E1.P.funcs[f]?).bind (·.body) with
  | some c=>c
  | none=> .skip
end
end Go.Proofs.YtchkojfhcdcnmaaGreatMd.Ev
