/-
  The functions in the engine form: no condition.
-/
import Derived.Test.YtmhfebelfmgckaaGreatDoorCE
open Go.Proofs.Tryz renaming prog->al
set_option linter.all false
set_option maxRecDepth 100000
set_option maxHeartbeats 4000000
namespace Go.Proofs.Dev
open Go Go.Tm
def k3:Kf al 3:=.of ce
def k4:Kf al 4:=.of ce
def k77:Kf al 77:=.of ce
def k78:Kf al 78:=.of ce
def k79:Kf al 79:=.of ce
def k84:Kf al 84:=.of ce
def k88:Kf al 88:=.of ce
def k94:Kf al 94:=.of ce
def k142:Kf al 142:=.of ce
def k148:Kf al 148:=.of ce
def k150:Kf al 150:=.of ce
def k153:Kf al 153:=.of ce
def k157:Kf al 157:=.of ce
def k163:Kf al 163:=.of ce
def k169:Kf al 169:=.of ce
def k186:Kf al 186:=.of ce
def k190:Kf al 190:=.of ce
def k191:Kf al 191:=.of ce
def k193:Kf al 193:=.of ce
def k194:Kf al 194:=.of ce
def k218:Kf al 218:=.of ce
def k222:Kf al 222:=.of ce
def k224:Kf al 224:=.of ce
def k227:Kf al 227:=.of ce
def k228:Kf al 228:=.of ce
def k229:Kf al 229:=.of ce
def k241:Kf al 241:=.of ce
def k245:Kf al 245:=.of ce
def k250:Kf al 250:=.of ce
def k252:Kf al 252:=.of ce
def k267:Kf al 267:=.of ce
def k268:Kf al 268:=.of ce
def k270:Kf al 270:=.of ce
def k274:Kf al 274:=.of ce
def k284:Kf al 284:=.of ce
def k286:Kf al 286:=.of ce
def k291:Kf al 291:=.of ce
def k292:Kf al 292:=.of ce
def k294:Kf al 294:=.of ce
def k296:Kf al 296:=.of ce
def k302:Kf al 302:=.of ce
def k305:Kf al 305:=.of ce
def k312:Kf al 312:=.of ce
def k316:Kf al 316:=.of ce
def k319:Kf al 319:=.of ce
def k324:Kf al 324:=.of ce
def k325:Kf al 325:=.of ce
def k327:Kf al 327:=.of ce
def k331:Kf al 331:=.of ce
def k335:Kf al 335:=.of ce
def k336:Kf al 336:=.of ce
def k339:Kf al 339:=.of ce
def k340:Kf al 340:=.of ce
def k348:Kf al 348:=.of ce
def k354:Kf al 354:=.of ce
def k363:Kf al 363:=.of ce
def k367:Kf al 367:=.of ce
def k370:Kf al 370:=.of ce
def k378:Kf al 378:=.of ce
def k380:Kf al 380:=.of ce
def k383:Kf al 383:=.of ce
def k391:Kf al 391:=.of ce
def k394:Kf al 394:=.of ce
def k397:Kf al 397:=.of ce
def k398:Kf al 398:=.of ce
def k400:Kf al 400:=.of ce
def k403:Kf al 403:=.of ce
def k404:Kf al 404:=.of ce
def k406:Kf al 406:=.of ce
def k410:Kf al 410:=.of ce
def k412:Kf al 412:=.of ce
def k419:Kf al 419:=.of ce
def k430:Kf al 430:=.of ce
def k432:Kf al 432:=.of ce
def k433:Kf al 433:=.of ce
def k436:Kf al 436:=.of ce
def k445:Kf al 445:=.of ce
def k447:Kf al 447:=.of ce
def k448:Kf al 448:=.of ce
def k450:Kf al 450:=.of ce
def k451:Kf al 451:=.of ce
def k462:Kf al 462:=.of ce
def k471:Kf al 471:=.of ce
def k489:Kf al 489:=.of ce
def k490:Kf al 490:=.of ce
def k496:Kf al 496:=.of ce
def k501:Kf al 501:=.of ce
def k86:Kf al 86:=.of ce
def k155:Kf al 155:=.of ce
def k156:Kf al 156:=.of ce
def k165:Kf al 165:=.of ce
def k168:Kf al 168:=.of ce
def k183:Kf al 183:=.of ce
def k185:Kf al 185:=.of ce
def k226:Kf al 226:=.of ce
def k230:Kf al 230:=.of ce
end Go.Proofs.Dev
