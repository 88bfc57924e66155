import Derived.Test.YtbkjflfbgknagaaGreatRows
import Derived.Test.YtbkjflfbgknagaaGreatTabModelOutbox
import Derived.Test.YtbkjflfbgknagaaGreatSmE
import Derived.KernelRfl
set_option maxRecDepth 100000
set_option linter.unusedVariables false
set_option linter.constructorNameAsVariable false
namespace Go.Proofs.YtbkjflfbgknagaaGreat.modelOutbox.Code
open Go Go.Am
theorem t14:compF Tryz.prog (atN []) Tryz.f14=some c14:=by kernel_rfl
theorem t78:compF Tryz.prog (atN []) Tryz.f78=some c78:=by kernel_rfl
theorem t50:compF Tryz.prog (atN []) Tryz.f50=some c50:=by kernel_rfl
theorem t161:compF Tryz.prog (atN [[0,1,7,29,30,31,1010304]]) Tryz.f161=some c161:=by kernel_rfl
theorem t179:compF Tryz.prog (atN []) Tryz.f179=some c179:=by kernel_rfl
theorem t208:compF Tryz.prog (atN []) Tryz.f208=some c208:=by kernel_rfl
theorem t207:compF Tryz.prog (atN []) Tryz.f207=some c207:=by kernel_rfl
theorem t220:compF Tryz.prog (atN []) Tryz.f220=some c220:=by kernel_rfl
theorem t239:compF Tryz.prog (atN [[0,1,7,8,1015296]]) Tryz.f239=some c239:=by kernel_rfl
theorem t253:compF Tryz.prog (atN [[0,1,7,8,1016192]]) Tryz.f253=some c253:=by kernel_rfl
theorem t93:compF Tryz.prog (atN [[0,1,7,8,1005952]]) Tryz.f93=some c93:=by kernel_rfl
theorem t91:compF Tryz.prog (atN []) Tryz.f91=some c91:=by kernel_rfl
theorem t132:compF Tryz.prog (atN [[0,1,7,8,1008448]]) Tryz.f132=some c132:=by kernel_rfl
theorem t92:compF Tryz.prog (atN []) Tryz.f92=some c92:=by kernel_rfl
theorem t52:compF Tryz.prog (atN []) Tryz.f52=some c52:=by kernel_rfl
theorem t54:compF Tryz.prog (atN []) Tryz.f54=some c54:=by kernel_rfl
theorem t46:compF Tryz.prog (atN []) Tryz.f46=some c46:=by kernel_rfl
theorem t162:compF Tryz.prog (atN []) Tryz.f162=some c162:=by kernel_rfl
theorem t101:compF Tryz.prog (atN []) Tryz.f101=some c101:=by kernel_rfl
theorem t102:compF Tryz.prog (atN []) Tryz.f102=some c102:=by kernel_rfl
theorem t117:compF Tryz.prog (atN []) Tryz.f117=some c117:=by kernel_rfl
theorem t118:compF Tryz.prog (atN []) Tryz.f118=some c118:=by kernel_rfl
theorem t203:compF Tryz.prog (atN [[0,1,2,8,9,10,1012992]]) Tryz.f203=some c203:=by kernel_rfl
theorem t234:compF Tryz.prog (atN []) Tryz.f234=some c234:=by kernel_rfl
theorem t122:compF Tryz.prog (atN []) Tryz.f122=some c122:=by kernel_rfl
theorem t236:compF Tryz.prog (atN [[1,5,6,1015104]]) Tryz.f236=some c236:=by kernel_rfl
theorem t125:compF Tryz.prog (atN []) Tryz.f125=some c125:=by kernel_rfl
theorem t176:compF Tryz.prog (atN []) Tryz.f176=some c176:=by kernel_rfl
theorem t214:compF Tryz.prog (atN [[3,6,7,8,1013696]]) Tryz.f214=some c214:=by kernel_rfl
theorem t61:compF Tryz.prog (atN []) Tryz.f61=some c61:=by kernel_rfl
theorem t88:compF Tryz.prog (atN []) Tryz.f88=some c88:=by kernel_rfl
theorem t48:compF Tryz.prog (atN []) Tryz.f48=some c48:=by kernel_rfl
theorem t45:compF Tryz.prog (atN [[1,3,1002880]]) Tryz.f45=some c45:=by kernel_rfl
theorem t114:compF Tryz.prog (atN [[1,3,25,26,27,1007296],[3,6,39,40,41,1007297],[3,6,7,39,40,41,47,48,49,1007298],[3,6,59,60,1007299],[3,6,11,59,60,63,64,1007300],[3,6,11,12,59,60,63,64,67,68,1007301],[6,97,98,1007302]]) Tryz.f114=some c114:=by kernel_rfl
theorem t180:compF Tryz.prog (atN []) Tryz.f180=some c180:=by kernel_rfl
theorem t219:compF Tryz.prog (atN []) Tryz.f219=some c219:=by kernel_rfl
theorem t240:compF Tryz.prog (atN []) Tryz.f240=some c240:=by kernel_rfl
theorem t53:compF Tryz.prog (atN []) Tryz.f53=some c53:=by kernel_rfl
theorem t90:compF Tryz.prog (atN []) Tryz.f90=some c90:=by kernel_rfl
theorem t62:compF Tryz.prog (atN [[1,2,15,16,17,1003968]]) Tryz.f62=some c62:=by kernel_rfl
theorem t205:compF Tryz.prog (atN []) Tryz.f205=some c205:=by kernel_rfl
theorem t210:compF Tryz.prog (atN []) Tryz.f210=some c210:=by kernel_rfl
theorem t213:compF Tryz.prog (atN []) Tryz.f213=some c213:=by kernel_rfl
theorem t87:compF Tryz.prog (atN []) Tryz.f87=some c87:=by kernel_rfl
theorem t25:compF Tryz.prog (atN [[1,2,13,14,15,1001600]]) Tryz.f25=some c25:=by kernel_rfl
theorem t13:compF Tryz.prog (atN [[0,5,1000832]]) Tryz.f13=some c13:=by kernel_rfl
theorem t130:compF Tryz.prog (atN []) Tryz.f130=some c130:=by kernel_rfl
theorem t181:compF Tryz.prog (atN []) Tryz.f181=some c181:=by kernel_rfl
theorem t222:compF Tryz.prog (atN []) Tryz.f222=some c222:=by kernel_rfl
theorem t223:compF Tryz.prog (atN []) Tryz.f223=some c223:=by kernel_rfl
theorem t235:compF Tryz.prog (atN []) Tryz.f235=some c235:=by kernel_rfl
theorem t204:compF Tryz.prog (atN []) Tryz.f204=some c204:=by kernel_rfl
theorem t211:compF Tryz.prog (atN []) Tryz.f211=some c211:=by kernel_rfl
theorem t175:compF Tryz.prog (atN [[1,5,10,11,12,1011200],[1,5,7,10,11,12,17,18,19,1011201]]) Tryz.f175=some c175:=by kernel_rfl
theorem t221:compF Tryz.prog (atN []) Tryz.f221=some c221:=by kernel_rfl
theorem t183:compF Tryz.prog (atN []) Tryz.f183=some c183:=by kernel_rfl
theorem t206:compF Tryz.prog (atN []) Tryz.f206=some c206:=by kernel_rfl
theorem t167:compF Tryz.prog (atN []) Tryz.f167=some c167:=by kernel_rfl
theorem t174:compF Tryz.prog (atN [[1,8,9,10,1011136]]) Tryz.f174=some c174:=by kernel_rfl
theorem t209:compF Tryz.prog (atN []) Tryz.f209=some c209:=by kernel_rfl
theorem t171:compF Tryz.prog (atN []) Tryz.f171=some c171:=by kernel_rfl
theorem t173:compF Tryz.prog (atN []) Tryz.f173=some c173:=by kernel_rfl
theorem t216:compF Tryz.prog (atN []) Tryz.f216=some c216:=by kernel_rfl
theorem t218:compF Tryz.prog (atN []) Tryz.f218=some c218:=by kernel_rfl
theorem t182:compF Tryz.prog (atN []) Tryz.f182=some c182:=by kernel_rfl
theorem t202:compF Tryz.prog (atN []) Tryz.f202=some c202:=by kernel_rfl
theorem t166:compF Tryz.prog (atN []) Tryz.f166=some c166:=by kernel_rfl
theorem t169:compF Tryz.prog (atN []) Tryz.f169=some c169:=by kernel_rfl
theorem t170:compF Tryz.prog (atN []) Tryz.f170=some c170:=by kernel_rfl
theorem t172:compF Tryz.prog (atN []) Tryz.f172=some c172:=by kernel_rfl
theorem t215:compF Tryz.prog (atN []) Tryz.f215=some c215:=by kernel_rfl
theorem t217:compF Tryz.prog (atN []) Tryz.f217=some c217:=by kernel_rfl
theorem t131:compF Tryz.prog (atN [[1,11,12,13,1008384]]) Tryz.f131=some c131:=by kernel_rfl
theorem t163:compF Tryz.prog (atN [[1,2,9,10,11,1010432]]) Tryz.f163=some c163:=by kernel_rfl
theorem t168:compF Tryz.prog (atN []) Tryz.f168=some c168:=by kernel_rfl
theorem t89:compF Tryz.prog (atN [[1,43,44,45,1005696]]) Tryz.f89=some c89:=by kernel_rfl
theorem t116:compF Tryz.prog (atN []) Tryz.f116=some c116:=by kernel_rfl
theorem t165:compF Tryz.prog (atN []) Tryz.f165=some c165:=by kernel_rfl
theorem t123:compF Tryz.prog (atN []) Tryz.f123=some c123:=by kernel_rfl
theorem t124:compF Tryz.prog (atN []) Tryz.f124=some c124:=by kernel_rfl
theorem t126:compF Tryz.prog (atN []) Tryz.f126=some c126:=by kernel_rfl
theorem t127:compF Tryz.prog (atN []) Tryz.f127=some c127:=by kernel_rfl
theorem t177:compF Tryz.prog (atN []) Tryz.f177=some c177:=by kernel_rfl
theorem t178:compF Tryz.prog (atN []) Tryz.f178=some c178:=by kernel_rfl
theorem t51:compF Tryz.prog (atN [[0,3,4,14,15,16,1003264],[0,3,4,14,15,16,47,48,49,1003265]]) Tryz.f51=some c51:=by kernel_rfl
theorem t115:compF Tryz.prog (atN [[1,15,16,17,1007360]]) Tryz.f115=some c115:=by kernel_rfl
theorem t119:compF Tryz.prog (atN [[2,6,7,8,19,20,21,1007616],[2,6,7,8,10,19,20,21,26,27,28,1007617]]) Tryz.f119=some c119:=by kernel_rfl
theorem t164:compF Tryz.prog (atN []) Tryz.f164=some c164:=by kernel_rfl
theorem t121:compF Tryz.prog (atN []) Tryz.f121=some c121:=by kernel_rfl
theorem t128:compF Tryz.prog (atN []) Tryz.f128=some c128:=by kernel_rfl
theorem t19:compF Tryz.prog (atN [[1,79,80,81,1001216],[1,99,100,101,1001217]]) Tryz.f19=some c19:=by kernel_rfl
theorem t79:compF Tryz.prog (atN []) Tryz.f79=some c79:=by kernel_rfl
theorem t120:compF Tryz.prog (atN []) Tryz.f120=some c120:=by kernel_rfl
theorem t81:compF Tryz.prog (atN []) Tryz.f81=some c81:=by kernel_rfl
theorem t82:compF Tryz.prog (atN []) Tryz.f82=some c82:=by kernel_rfl
theorem t83:compF Tryz.prog (atN []) Tryz.f83=some c83:=by kernel_rfl
theorem t84:compF Tryz.prog (atN []) Tryz.f84=some c84:=by kernel_rfl
theorem t129:compF Tryz.prog (atN []) Tryz.f129=some c129:=by kernel_rfl
theorem t86:compF Tryz.prog (atN []) Tryz.f86=some c86:=by kernel_rfl
theorem t80:compF Tryz.prog (atN []) Tryz.f80=some c80:=by kernel_rfl
theorem t85:compF Tryz.prog (atN [[0,4,7,45,46,47,1005440]]) Tryz.f85=some c85:=by kernel_rfl
theorem t47:compF Tryz.prog (atN []) Tryz.f47=some c47:=by kernel_rfl
theorem t15:compF Tryz.prog (atN []) Tryz.f15=some c15:=by kernel_rfl
theorem t44:compF Tryz.prog (atN []) Tryz.f44=some c44:=by kernel_rfl
theorem t12:compF Tryz.prog (atN []) Tryz.f12=some c12:=by kernel_rfl
theorem t4:compF Tryz.prog (atN [[0,4,5,6,7,1000256],[0,4,5,6,7,9,10,1000257],[0,4,5,6,7,1000258]]) Tryz.f4=some c4:=by kernel_rfl
theorem orders:Tryz.prog.follows .mixedOrders=true:=by kernel_rfl
end Go.Proofs.YtbkjflfbgknagaaGreat.modelOutbox.Code
