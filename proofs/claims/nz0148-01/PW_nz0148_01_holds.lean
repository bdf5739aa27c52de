import PyProof.Rows.All
import Wide.All
import OpenK.AllK
import Wide.FinOn
import Lean
import PySem.Challenge.RW_nz0148_01
open PySem PySem.W PyProof.Rows
noncomputable section
set_option compiler.extract_closed false
set_option Elab.async true
set_option linter.unusedSimpArgs false
namespace Nz
def Aim : Prop := True
def Aim2 : Prop := True
theorem aim_of (_ : PySem.Challenge.rw_nz0148_01.Holds) : Aim = True := rfl
theorem aim_two : Aim2 = True := rfl
theorem pre.tw17262687317005644520 : True := trivial
theorem pre.tw14395266326872722946 : True := trivial
set_option maxRecDepth 100000 in
set_option maxHeartbeats 8000000 in
theorem pre : Aim ∧ Aim2 := by
  simp (disch := (w_on; o_law; k_head)) only [aim_of, aim_two]
  exact ⟨trivial, trivial⟩
noncomputable def recGet {β : Type} {o : Option (DefRec × β)} {d : DefRec} {k : β} (_ : o = some (d, k)) : DefRec := d
noncomputable def lawRec : DefRec := recGet (show defOf pre.view_1_40 PySem.Challenge.rw_nz0148_01.row.name = some (_, _) from rfl)
set_option Elab.async false in
theorem walk_off : True := by
  w_top off
  trivial
end Nz

set_option linter.unusedVariables false
namespace Nz
theorem hd.tw17262687317005644520 : True := trivial
theorem hd.tw14395266326872722946 : True := trivial
theorem hd.tw2526475863774681742 : True := trivial
theorem hd.tw147453077569172999 : True := trivial
theorem hd.tw6010005068372568751 : True := trivial
theorem hd.tw13567026791743936222 : True := trivial
theorem hd.tw4721062060218081866 : True := trivial
theorem hd.tw364214375716265079 : True := trivial
theorem hd.tw2564952984334670772 : True := trivial
theorem hd.tw15142152254606431286 : True := trivial
theorem hd.tw135515597511861502 : True := trivial
theorem hd.tw5206389018800054824 : True := trivial
theorem hd.tw6568462211928868521 : True := trivial
theorem hd.tw1649243648892449974 : True := trivial
theorem hd.tw11182537328659638255 : True := trivial
theorem hd.tw6440236313767536655 : True := trivial
theorem hd.tw2956616770899578052 : True := trivial
theorem hd.tw18066565702157346584 : True := trivial
theorem hd.tw5798383458253674681 : True := trivial
theorem hd.tw15207473183199965160 : True := trivial
theorem hd.tw13977119386593393462 : True := trivial
theorem hd.tw8755077598401215818 : True := trivial
theorem hd.tw4899499416682086214 : True := trivial
theorem hd.tw12511054996463462111 : True := trivial
theorem hd.tw8284428983792560049 : True := trivial
theorem hd.tw11898868495862029303 : True := trivial
theorem hd.tw12299764479418853528 : True := trivial
theorem hd.tw6559304842607226232 : True := trivial
theorem hd.tw14820222400531429514 : True := trivial
theorem hd.tw12737633314922274324 : True := trivial
theorem hd.tw1851474769806690776 : True := trivial
theorem hd.tw9451932128029626851 : True := trivial
theorem hd.tw7710022774070058896 : True := trivial
theorem hd.tw12455984522525064007 : True := trivial
theorem hd.tw16555058495697670488 : True := trivial
theorem hd.tw7946033255757558198 : True := trivial
theorem hd.tw8633168963703873307 : True := trivial
theorem hd.tw2256705433096179326 : True := trivial
theorem hd.tw730309717392203856 : True := trivial
theorem hd.tw1896384621540807407 : True := trivial
theorem hd.tw13960811091131898937 : True := trivial
theorem hd.tw6065309856153378507 : True := trivial
theorem hd.tw1107627861915163931 : True := trivial
theorem hd.tw16510595005362558378 : True := trivial
theorem hd.tw2791178887420685519 : True := trivial
theorem hd.tw11568197757112563647 : True := trivial
theorem hd.tw13658453017046696109 : True := trivial
theorem hd.tw14195500545830510335 : True := trivial
theorem hd.tw994434021481161958 : True := trivial
theorem hd.tw17525668905294759416 : True := trivial
theorem hd.tw4852800683694970099 : True := trivial
theorem hd.tw1341035818819618355 : True := trivial
theorem hd.tw1147111928924247419 : True := trivial
theorem hd.tw2051525107116980169 : True := trivial
theorem hd.tw4453197745140417911 : True := trivial
theorem hd.tw7855122282989739837 : True := trivial
theorem hd.tw266679491074589327 : True := trivial
theorem hd.tw17786669669028711052 : True := trivial
theorem hd.tw2579953517981063947 : True := trivial
theorem hd.tw17816998896225660235 : True := trivial
theorem hd.tw112684963373626765 : True := trivial
theorem hd.tw9830976661552626513 : True := trivial
theorem hd.tw9256431736514899353 : True := trivial
theorem hd.tw1253442698748188261 : True := trivial
theorem hd.tw12880501430982070647 : True := trivial
theorem hd.tw8399284003332854238 : True := trivial
theorem hd.tw1697857680703583749 : True := trivial
theorem hd.tw16316016115778260890 : True := trivial
theorem hd.tw6576924826185787197 : True := trivial
theorem hd.tw11243833589823402743 : True := trivial
theorem hd.tw17923118271378656141 : True := trivial
theorem hd.tw6442596231344210012 : True := trivial
theorem hd.tw4926499612847114701 : True := trivial
theorem hd.tw13385348266088836936 : True := trivial
theorem hd.tw15410152120223753622 : True := trivial
theorem hd.tw4741569741529717035 : True := trivial
theorem hd.tw7551210490240968791 : True := trivial
theorem hd.tw11081610972631124328 : True := trivial
theorem hd.tw3927665826621398100 : True := trivial
theorem hd.tw15726308161490199987 : True := trivial
theorem hd.tw3090630869645019171 : True := trivial
theorem hd.tw8331773405780263045 : True := trivial
theorem hd.tw6226485247212116420 : True := trivial
theorem hd.tw11630879528969368825 : True := trivial
theorem hd.tw323912677502499784 : True := trivial
theorem hd.tw15516665166652269435 : True := trivial
theorem hd.tw17020766377497969486 : True := trivial
theorem hd.tw1281494941569215410 : True := trivial
theorem hd.tw16275063491588793407 : True := trivial
theorem hd.tw13476975377516518919 : True := trivial
theorem hd.tw1518180431382801208 : True := trivial
theorem hd.tw14219369158756547345 : True := trivial
theorem hd.tw2560561529557771263 : True := trivial
theorem hd.tw10029740028328055591 : True := trivial
theorem hd.tw11387006654899934068 : True := trivial
theorem hd.tw17349931173889087602 : True := trivial
theorem hd.tw15287303911208194467 : True := trivial
theorem hd.tw1299578015077622340 : True := trivial
theorem hd.tw339493607896974750 : True := trivial
theorem hd.tw4121940832529054684 : True := trivial
theorem hd.tw1894195453850884670 : True := trivial
theorem hd.tw4223339717120878313 : True := trivial
theorem hd.tw74388804978469506 : True := trivial
theorem hd.tw4542403305846290223 : True := trivial
theorem hd.tw1900698760799555698 : True := trivial
theorem hd.tw15622506113137472556 : True := trivial
theorem hd.tw17857745082934239733 : True := trivial
theorem hd.tw12798012309857922523 : True := trivial
theorem hd.tw17577170921366094278 : True := trivial
theorem hd.tw3236643914525805838 : True := trivial
theorem hd.tw1372661595922518703 : True := trivial
theorem hd.tw4901546295264399478 : True := trivial
theorem hd.tw9190547200895074852 : True := trivial
theorem hd.tw1868441526384643429 : True := trivial
theorem hd.tw1765492427431026711 : True := trivial
theorem hd.tw7405744617521462271 : True := trivial
theorem hd.tw10660945498013505698 : True := trivial
theorem hd.tw919308422151721565 : True := trivial
theorem hd.tw13161186634803112599 : True := trivial
theorem hd.tw13656207302966452703 : True := trivial
theorem hd.tw8012929731021746604 : True := trivial
theorem hd.tw4763690872324274862 : True := trivial
theorem hd.tw13370131525564901856 : True := trivial
theorem hd.tw6247327670693864725 : True := trivial
theorem hd.tw3355997721796051094 : True := trivial
theorem hd.tw17117535106261578887 : True := trivial
theorem hd.tw10562433012127873273 : True := trivial
theorem hd.tw17865905374820930521 : True := trivial
theorem hd.tw169349113464153936 : True := trivial
theorem hd.tw1335858965428763278 : True := trivial
theorem hd.tw2384926278082230056 : True := trivial
theorem hd.tw13874486214204499166 : True := trivial
theorem hd.tw8741478790143140390 : True := trivial
theorem hd.tw6886717942851397397 : True := trivial
theorem hd.tw10667494365431245457 : True := trivial
theorem hd.tw17207466568460398654 : True := trivial
theorem hd.tw8737940013081104916 : True := trivial
theorem hd.tw18194443999959533634 : True := trivial
theorem hd.tw11249897538638333069 : True := trivial
theorem hd.tw12893747860975724782 : True := trivial
theorem hd.tw15035484070456655112 : True := trivial
theorem hd.tw11454644481587972193 : True := trivial
theorem hd.tw4010326507952113846 : True := trivial
theorem hd.tw18273198896698551601 : True := trivial
theorem hd.tw3755126158333539668 : True := trivial
theorem hd.tw5695439249331582548 : True := trivial
theorem hd.tw10305976254360200076 : True := trivial
theorem hd.tw17101894873228940566 : True := trivial
theorem hd.tw12635139283571797681 : True := trivial
theorem hd.tw5092724136408972807 : True := trivial
theorem hd.tw7737915013388693739 : True := trivial
theorem hd.tw15999221842716234643 : True := trivial
theorem hd.tw4093639842816358529 : True := trivial
theorem hd.tw1648658574483656573 : True := trivial
theorem hd.tw4018558374213460998 : True := trivial
theorem hd.tw15388010940291297915 : True := trivial
theorem hd.tw12656028880730142575 : True := trivial
theorem hd.tw5925688148987893214 : True := trivial
theorem hd.tw15896865025975466887 : True := trivial
theorem hd.tw9371608831079800176 : True := trivial
theorem hd.tw8490781598930816948 : True := trivial
theorem hd.tw11381145501197414928 : True := trivial
theorem hd.tw8904675032109231473 : True := trivial
theorem hd.tw2132119865595181162 : True := trivial
theorem hd.tw12539650087130322935 : True := trivial
theorem hd.tw9210812138038451905 : True := trivial
theorem hd.tw13377115764163385178 : True := trivial
theorem hd.tw2774000708092214501 : True := trivial
theorem hd.tw2217507764609832244 : True := trivial
theorem hd.tw8233525893632253385 : True := trivial
theorem hd.tw12662809461730391084 : True := trivial
theorem hd.tw4122338276481441477 : True := trivial
theorem hd.tw8110597995037121476 : True := trivial
theorem hd.tw11015761950212751488 : True := trivial
theorem hd.tw16851452236269800705 : True := trivial
theorem hd.tw13666982190181877915 : True := trivial
theorem hd.tw3249532260874274986 : True := trivial
theorem hd.tw12692890282813878972 : True := trivial
theorem hd.tw13364398135478504352 : True := trivial
theorem hd.tw10009643019479093410 : True := trivial
theorem hd.tw4355587713450638508 : True := trivial
theorem hd.tw9572767697220212355 : True := trivial
theorem hd.tw7679184980582281120 : True := trivial
theorem hd.tw16375698489536712098 : True := trivial
theorem hd.tw9819816901300407761 : True := trivial
theorem hd.tw16983116007813574734 : True := trivial
theorem hd.tw2240772975541153058 : True := trivial
theorem hd.tw18267843523063633891 : True := trivial
theorem hd.tw3436405171350194918 : True := trivial
theorem hd.tw16801083061561452819 : True := trivial
theorem hd.tw9726872128949920770 : True := trivial
theorem hd.tw3999474078203922196 : True := trivial
theorem hd.tw7557119859347150165 : True := trivial
theorem hd.tw5736378884266316811 : True := trivial
theorem hd.tw12722287149514902797 : True := trivial
theorem hd.tw874319144022833169 : True := trivial
theorem hd.tw6393458744687513948 : True := trivial
theorem hd.tw9045590741311497928 : True := trivial
theorem hd.tw16192912783633615843 : True := trivial
theorem hd.tw14367294223770912582 : True := trivial
theorem hd.tw687241972866129893 : True := trivial
theorem hd.tw4521258192830280784 : True := trivial
theorem hd.tw17266195481469792832 : True := trivial
theorem hd.tw14643508838977256146 : True := trivial
theorem hd.tw8673837604969807022 : True := trivial
theorem hd.tw16073765185622323192 : True := trivial
theorem hd.tw8245084465279471276 : True := trivial
theorem hd.tw3455802076975993345 : True := trivial
theorem hd.tw8011168672111236897 : True := trivial
theorem hd.tw1767730132242625000 : True := trivial
theorem hd.tw1663676205553150872 : True := trivial
theorem hd.tw17597659962249845249 : True := trivial
theorem hd.tw7944483729117469187 : True := trivial
theorem hd.tw15628026229312769862 : True := trivial
theorem hd.tw18048022429772485681 : True := trivial
theorem hd.tw14074493279689810258 : True := trivial
theorem hd.tw2809322649680458639 : True := trivial
theorem hd.tw6435390643498884967 : True := trivial
theorem hd.tw15412820589126565870 : True := trivial
theorem hd.tw12321165136949016832 : True := trivial
theorem hd.tw5663661602805882806 : True := trivial
theorem hd.tw6051783592040851474 : True := trivial
theorem hd.tw7094018546277441826 : True := trivial
theorem hd.tw3540639028354859507 : True := trivial
theorem hd.tw734068613136637560 : True := trivial
theorem hd.tw13276259813268493602 : True := trivial
theorem hd.tw10733601529041306693 : True := trivial
theorem hd.tw3262431412962344236 : True := trivial
theorem hd.tw2472460988091103903 : True := trivial
theorem hd.tw5847435371448746201 : True := trivial
theorem hd.tw6164007139329948464 : True := trivial
theorem hd.tw1024608350863935625 : True := trivial
theorem hd.tw7175224579872180093 : True := trivial
theorem hd.tw6190443018770931572 : True := trivial
theorem hd.tw17221048985958592002 : True := trivial
theorem hd.tw10695894459793653794 : True := trivial
theorem hd.tw13250547475451933578 : True := trivial
theorem hd.tw17259174380100323392 : True := trivial
theorem hd.tw13287556251906683295 : True := trivial
theorem hd.tw7075242157648124149 : True := trivial
theorem hd.tw14748161690813719133 : True := trivial
theorem hd.tw11247396781895465858 : True := trivial
theorem hd.tw10374001713529915181 : True := trivial
theorem hd.tw204895657328566136 : True := trivial
theorem hd.tw10781526177502025835 : True := trivial
theorem hd.tw17453395775251336836 : True := trivial
theorem hd.tw13976085890435758531 : True := trivial
theorem hd.tw16911204461377445706 : True := trivial
theorem hd.tw13538733073359781928 : True := trivial
theorem hd.tw6984133554086115239 : True := trivial
theorem hd.tw6058708596149475463 : True := trivial
theorem hd.tw9007436534008594664 : True := trivial
theorem hd.tw10147402083572625978 : True := trivial
theorem hd.tw9758949260085835976 : True := trivial
theorem hd.tw6072423724084505186 : True := trivial
theorem hd.tw4275549594562546492 : True := trivial
theorem hd.tw7805017813839641155 : True := trivial
theorem hd.tw499576336435026107 : True := trivial
theorem hd.tw4931410318172811861 : True := trivial
theorem hd.tw9349279365432598843 : True := trivial
theorem hd.tw276962941280818278 : True := trivial
theorem hd.tw16769615533456612227 : True := trivial
theorem hd.tw11283644011129730977 : True := trivial
theorem hd.tw12144182203983237619 : True := trivial
theorem hd.tw816540765355491642 : True := trivial
theorem hd.tw11308763668854662106 : True := trivial
theorem hd.tw7574690686738964188 : True := trivial
theorem hd.tw1436218475796817377 : True := trivial
theorem hd.tw4423423057970764904 : True := trivial
theorem hd.tw15511348239798664527 : True := trivial
theorem hd.tw16651266955612926957 : True := trivial
theorem hd.tw3736329396316836852 : True := trivial
theorem hd.tw18416478237096576402 : True := trivial
theorem hd.tw8753432777879632794 : True := trivial
theorem hd.tw301562860041965263 : True := trivial
theorem hd.tw8046108613559187834 : True := trivial
theorem hd.tw1601514779922325016 : True := trivial
theorem hd.tw13967571935806111309 : True := trivial
theorem hd.tw11896252695563481564 : True := trivial
theorem hd.tw9256220891565180173 : True := trivial
theorem hd.tw11293754657926409363 : True := trivial
theorem hd.tw4997398693315607894 : True := trivial
theorem hd.tw7157717391941484269 : True := trivial
theorem hd.tw4041307432250451836 : True := trivial
theorem hd.tw3435085165482637891 : True := trivial
theorem hd.tw13860021104651184394 : True := trivial
theorem hd.tw15387317145279364966 : True := trivial
theorem hd.tw7322084687688108235 : True := trivial
theorem hd.tw11730493743923162059 : True := trivial
theorem hd.tw12849203049894768090 : True := trivial
theorem hd.tw13867599604714347799 : True := trivial
theorem hd.tw14483906254157698145 : True := trivial
theorem hd.tw14688725657906664573 : True := trivial
theorem hd.tw13152565055307564562 : True := trivial
theorem hd.tw5711825890371990404 : True := trivial
theorem hd.tw12819416002321292342 : True := trivial
theorem hd.tw3859479486669364650 : True := trivial
theorem hd.tw12262469172911629033 : True := trivial
theorem hd.tw2957523410260186313 : True := trivial
theorem hd.tw3058770687701674637 : True := trivial
theorem hd.tw3121245053785410093 : True := trivial
theorem hd.tw9391525809890135295 : True := trivial
theorem hd.tw5095916599306605285 : True := trivial
theorem hd.tw2928922545477187754 : True := trivial
theorem hd.tw4911797419773097493 : True := trivial
theorem hd.tw14185305217784261731 : True := trivial
theorem hd.tw9148896326672267147 : True := trivial
theorem hd.tw550272726554708978 : True := trivial
theorem hd.tw4906000837805913671 : True := trivial
theorem hd.tw9465300367993026563 : True := trivial
theorem hd.tw13419072710021772969 : True := trivial
theorem hd.tw1116432891188111626 : True := trivial
theorem hd.tw2108876437540709376 : True := trivial
theorem hd.tw14846697507612633887 : True := trivial
theorem hd.tw12348668700726221015 : True := trivial
theorem hd.tw4890088286932073794 : True := trivial
theorem hd.tw13395992337976620706 : True := trivial
theorem hd.tw7260394375582570832 : True := trivial
theorem hd.tw7107555606215827852 : True := trivial
theorem hd.tw8351069703987399209 : True := trivial
theorem hd.tw4830008185455721791 : True := trivial
theorem hd.tw845007865646164794 : True := trivial
theorem hd.tw10932207142985418530 : True := trivial
theorem hd.tw532585203972061214 : True := trivial
theorem hd.tw14101528551275554240 : True := trivial
theorem hd.tw10002519671081432562 : True := trivial
theorem hd.tw5670410261571456925 : True := trivial
theorem hd.tw3705148591060930033 : True := trivial
theorem hd.tw4515852063849721628 : True := trivial
theorem hd.tw14687561168514650861 : True := trivial
theorem hd.tw11566598526014587985 : True := trivial
theorem hd.tw10785240964144015949 : True := trivial
theorem hd.tw2195147094906443001 : True := trivial
theorem hd.tw12724660918885286296 : True := trivial
theorem hd.tw17556426860268367519 : True := trivial
theorem hd.tw17240842102995818543 : True := trivial
theorem hd.tw6872137731561485342 : True := trivial
theorem hd.tw8588900796577126236 : True := trivial
theorem hd.tw16774765036520809545 : True := trivial
theorem hd.tw7647572744155080449 : True := trivial
theorem hd.tw14513471396091867030 : True := trivial
theorem hd.tw7924658808196200840 : True := trivial
theorem hd.tw925583018129925936 : True := trivial
theorem hd.tw10363574649017061556 : True := trivial
theorem hd.tw9832989835100090341 : True := trivial
theorem hd.tw352105691510236558 : True := trivial
theorem hd.tw11907179348475705447 : True := trivial
theorem hd.tw11271877859221239633 : True := trivial
theorem hd.tw6817485761869499276 : True := trivial
theorem hd.tw15487163839142349593 : True := trivial
theorem hd.tw5305219881423161344 : True := trivial
theorem hd.tw10037583788602312933 : True := trivial
theorem hd.tw1491168454730759844 : True := trivial
theorem hd.tw12443705467929720831 : True := trivial
theorem hd.tw2383245503807993948 : True := trivial
theorem hd.tw9892042348353308141 : True := trivial
theorem hd.tw1538655076223366953 : True := trivial
theorem hd.tw12782538625006141375 : True := trivial
theorem hd.tw8684917161887220884 : True := trivial
theorem hd.tw15959238902391709401 : True := trivial
theorem hd.tw15144153562941460920 : True := trivial
theorem hd.tw13785899796229267783 : True := trivial
theorem hd.tw132933753355695687 : True := trivial
theorem hd.tw17512997367019187583 : True := trivial
theorem hd.tw260625144805216731 : True := trivial
theorem hd.tw8173777166074065784 : True := trivial
theorem hd.tw10232589195358400746 : True := trivial
theorem hd.tw9511149143990755099 : True := trivial
theorem hd.tw11300849233908478218 : True := trivial
theorem hd.tw10649813840381758531 : True := trivial
theorem hd.tw12375110527338895060 : True := trivial
theorem hd.tw1636283864922712138 : True := trivial
theorem hd.tw11733096566066505415 : True := trivial
theorem hd.tw11153701711907420385 : True := trivial
theorem hd.tw597410749300287214 : True := trivial
theorem hd.tw7146886996250093949 : True := trivial
theorem hd.tw13078198097128386601 : True := trivial
theorem hd.tw1389239666590793283 : True := trivial
theorem hd.tw8052007922128350760 : True := trivial
theorem hd.tw16205695339532763845 : True := trivial
theorem hd.tw16436817965410974423 : True := trivial
theorem hd.tw17138946689970852039 : True := trivial
theorem hd.tw16132393772549786998 : True := trivial
theorem hd.tw5077540853341639242 : True := trivial
theorem hd.tw1767004078460649199 : True := trivial
theorem hd.tw10716145297454519365 : True := trivial
theorem hd.tw10637964265814889989 : True := trivial
theorem hd.tw4343034670738940386 : True := trivial
theorem hd.tw14377785536561504400 : True := trivial
theorem hd.tw18190840958732748941 : True := trivial
theorem hd.tw4382710243373758192 : True := trivial
theorem hd.tw15832479489993305373 : True := trivial
theorem hd.tw224173965565646846 : True := trivial
theorem hd.tw14946948086077013791 : True := trivial
theorem hd.tw16392479209493291765 : True := trivial
theorem hd.tw16427401025217961495 : True := trivial
theorem hd.tw13966105198685297307 : True := trivial
theorem hd.tw5520124318868127017 : True := trivial
theorem hd.tw4869200002484427682 : True := trivial
theorem hd.tw3951997218170701795 : True := trivial
theorem hd.tw13882927973902559133 : True := trivial
theorem hd.tw10727899020532104344 : True := trivial
theorem hd.tw6179272914264820553 : True := trivial
theorem hd.tw9911108273044116079 : True := trivial
theorem hd.tw17498576039969973418 : True := trivial
theorem hd.tw5303053011595159839 : True := trivial
theorem hd.tw10549925098437786877 : True := trivial
theorem hd.tw7507411374545404329 : True := trivial
theorem hd.tw17126601434587899785 : True := trivial
theorem hd.tw14238446917644694433 : True := trivial
theorem hd.tw18109288363934088291 : True := trivial
theorem hd.tw13441810229254150682 : True := trivial
theorem hd.tw8446388009119668479 : True := trivial
theorem hd.tw8486406671601053454 : True := trivial
theorem hd.tw446747833218573794 : True := trivial
theorem hd.tw10090796862143941326 : True := trivial
theorem hd.tw10198381969745822209 : True := trivial
theorem hd.tw6065661438916633101 : True := trivial
theorem hd.tw2090680595959817352 : True := trivial
theorem hd.tw4759276723657406157 : True := trivial
theorem hd.tw7026102744995015565 : True := trivial
theorem hd.tw10850946535177770154 : True := trivial
theorem hd.tw5697838228346654681 : True := trivial
theorem hd.tw9776455734135948603 : True := trivial
theorem hd.tw15081036252293578903 : True := trivial
theorem hd.tw10712847619087398389 : True := trivial
theorem hd.tw12629659705146299692 : True := trivial
theorem hd.tw11566507605027268674 : True := trivial
theorem hd.tw10048428993967235187 : True := trivial
theorem hd.tw5538113317919227739 : True := trivial
theorem hd.tw10651278030818610231 : True := trivial
theorem hd.tw13137976103538675089 : True := trivial
theorem hd.tw10549595407618731899 : True := trivial
theorem hd.tw4477626966556256206 : True := trivial
theorem hd.tw4514244336205233273 : True := trivial
theorem hd.tw5357969605177125581 : True := trivial
theorem hd.tw17917176700838448062 : True := trivial
theorem hd.tw4639978035693747029 : True := trivial
theorem hd.tw106197501931157439 : True := trivial
theorem hd.tw13549032973293304238 : True := trivial
theorem hd.tw17786367968603868508 : True := trivial
theorem hd.tw12743368993598381567 : True := trivial
theorem hd.tw11256584779554274140 : True := trivial
theorem hd.tw11242705500098213669 : True := trivial
theorem hd.tw6734343441450642299 : True := trivial
theorem hd.tw15269961089682017762 : True := trivial
theorem hd.tw5161480971063728947 : True := trivial
theorem hd.tw3863176123146968926 : True := trivial
theorem hd.tw5185548571826890120 : True := trivial
theorem hd.tw7251548462530262288 : True := trivial
theorem hd.tw15597727317213127911 : True := trivial
theorem hd.tw560022078573854222 : True := trivial
theorem hd.tw944546257326982567 : True := trivial
theorem hd.tw9177137219325412719 : True := trivial
theorem hd.tw1071828913890901608 : True := trivial
theorem hd.tw6700234384759257290 : True := trivial
theorem hd.tw4601830768016750271 : True := trivial
theorem hd.tw5108881029327429830 : True := trivial
theorem hd.tw6741173517744514476 : True := trivial
theorem hd.tw36867222155505665 : True := trivial
theorem hd.tw4996485670962079280 : True := trivial
theorem hd.tw15919885944332835818 : True := trivial
theorem hd.tw1375717861638953752 : True := trivial
theorem hd.tw4029964821502048315 : True := trivial
theorem hd.tw7869347951178985806 : True := trivial
theorem hd.tw8240603578273127865 : True := trivial
theorem hd.tw17828424878583434037 : True := trivial
theorem hd.tw14938526950362253250 : True := trivial
theorem hd.tw11257253789503153929 : True := trivial
theorem hd.tw14880261837562147780 : True := trivial
theorem hd.tw2256641387632754344 : True := trivial
theorem hd.tw8304674224526278940 : True := trivial
theorem hd.tw10644020057907353473 : True := trivial
theorem hd.tw3444188480519218930 : True := trivial
theorem hd.tw1403081382112826627 : True := trivial
theorem hd.tw8000045795095476640 : True := trivial
theorem hd.tw12346380498438128515 : True := trivial
theorem hd.tw11865548546685959442 : True := trivial
theorem hd.tw18086816412125976739 : True := trivial
theorem hd.tw3562084962344362754 : True := trivial
theorem hd.tw15305653586159832935 : True := trivial
theorem hd.tw15879194534149222154 : True := trivial
theorem hd.tw1371887338844118619 : True := trivial
theorem hd.tw17561834080262669156 : True := trivial
theorem hd.tw5396335666284824565 : True := trivial
theorem hd.tw11021597052248462657 : True := trivial
theorem hd.tw17574511648110334623 : True := trivial
theorem hd.tw865240312594499534 : True := trivial
theorem hd.tw131943125824308918 : True := trivial
theorem hd.tw11835572122575970203 : True := trivial
theorem hd.tw11387512693146177677 : True := trivial
theorem hd.tw12455484330718839467 : True := trivial
theorem hd.tw3487780667625100898 : True := trivial
theorem hd.tw11646619317784485350 : True := trivial
theorem hd.tw3250085139974966990 : True := trivial
theorem hd.tw965096522578885981 : True := trivial
theorem hd.tw2037366854231720952 : True := trivial
theorem hd.tw12059213909495908214 : True := trivial
theorem hd.tw10495979555105133041 : True := trivial
theorem hd.tw7314549902558173309 : True := trivial
theorem hd.tw2761015201996157952 : True := trivial
theorem hd.tw13685272997064035357 : True := trivial
theorem hd.tw6737504389624534532 : True := trivial
theorem hd.tw10720516912979633367 : True := trivial
theorem hd.tw17399375374030127715 : True := trivial
theorem hd.tw11585502546033524595 : True := trivial
theorem hd.tw1136336266183910626 : True := trivial
theorem hd.tw4995993481712953240 : True := trivial
theorem hd.tw6921567386861060974 : True := trivial
theorem hd.tw11536338898844270085 : True := trivial
theorem hd.tw12145215313706336730 : True := trivial
theorem hd.tw15885542863859624729 : True := trivial
theorem hd.tw15205163044042566111 : True := trivial
theorem hd.tw11863576146296151940 : True := trivial
theorem hd.tw9632132455437641968 : True := trivial
theorem hd.tw7743822063060662245 : True := trivial
theorem hd.tw90635141152928365 : True := trivial
theorem hd.tw9786248784910976599 : True := trivial
theorem hd.tw6045529487446995888 : True := trivial
theorem hd.tw4039904614897924157 : True := trivial
theorem hd.tw14208916962728490239 : True := trivial
theorem hd.tw4742640095799012228 : True := trivial
theorem hd.tw17606095165690834992 : True := trivial
theorem hd.tw16719011134896550544 : True := trivial
theorem hd.tw14916197710702419457 : True := trivial
theorem hd.tw1759061208858758352 : True := trivial
theorem hd.tw2626918133054443569 : True := trivial
theorem hd.tw6519173031264331460 : True := trivial
theorem hd.tw9161727658635914986 : True := trivial
theorem hd.tw885587462577683718 : True := trivial
theorem hd.tw17295097303345976927 : True := trivial
theorem hd.tw12711494877011059934 : True := trivial
theorem hd.tw16362365365402323610 : True := trivial
theorem hd.tw8718192534052054840 : True := trivial
theorem hd.tw17075144534886856807 : True := trivial
theorem hd.tw10652874700679847313 : True := trivial
theorem hd.tw10283116931010001193 : True := trivial
theorem hd.tw1033663072757542004 : True := trivial
theorem hd.tw16384030164298951069 : True := trivial
theorem hd.tw3839747841011949282 : True := trivial
theorem hd.tw8265141744602623828 : True := trivial
theorem hd.tw8645714924227378759 : True := trivial
theorem hd.tw13118877728367819226 : True := trivial
theorem hd.tw9333281685144285354 : True := trivial
theorem hd.tw14106710259354277636 : True := trivial
theorem hd.tw11525931221351971707 : True := trivial
theorem hd.tw820500268521880469 : True := trivial
theorem hd.tw16789817041804578869 : True := trivial
theorem hd.tw11764557677451791269 : True := trivial
theorem hd.tw3620115566465733958 : True := trivial
theorem hd.tw1626282265149745246 : True := trivial
theorem hd.tw692312897232053792 : True := trivial
theorem hd.tw2974208449730837185 : True := trivial
theorem hd.tw7940748906830209286 : True := trivial
theorem hd.tw14902971542969443894 : True := trivial
theorem hd.tw409280213911328019 : True := trivial
theorem hd.tw5115576635553225826 : True := trivial
theorem hd.tw17494669811942077348 : True := trivial
theorem hd.tw6804417868776036003 : True := trivial
theorem hd.tw14319073735225948336 : True := trivial
theorem hd.tw15202957687574682329 : True := trivial
theorem hd.tw6961972761065721965 : True := trivial
theorem hd.tw14001097349328675084 : True := trivial
theorem hd.tw5587089402886170453 : True := trivial
theorem hd.tw3393676141651948008 : True := trivial
theorem hd.tw926108864907516221 : True := trivial
theorem hd.tw4227175381316653766 : True := trivial
theorem hd.tw6075893784345246856 : True := trivial
theorem hd.tw5017540270912087408 : True := trivial
theorem hd.tw17948265317227991191 : True := trivial
theorem hd.tw2851800957827721640 : True := trivial
theorem hd.tw8927668980335846565 : True := trivial
theorem hd.tw1869412396078167299 : True := trivial
theorem hd.tw8468627847786835229 : True := trivial
theorem hd.tw8786144561203169638 : True := trivial
theorem hd.tw3800445538651327873 : True := trivial
theorem hd.tw3158656861787094000 : True := trivial
theorem hd.tw5081637286874027857 : True := trivial
theorem hd.tw573812213715982702 : True := trivial
theorem hd.tw6462383157971957757 : True := trivial
theorem hd.tw12284556151106157813 : True := trivial
theorem hd.tw6881096866609548856 : True := trivial
theorem hd.tw6885614912467844432 : True := trivial
theorem hd.tw7646151931798906284 : True := trivial
theorem hd.tw7698116126526047050 : True := trivial
theorem hd.tw16811412413119647967 : True := trivial
theorem hd.tw5877003923546671419 : True := trivial
theorem hd.tw9385913431199451830 : True := trivial
theorem hd.tw13769413935141208456 : True := trivial
theorem hd.tw11831946160809757528 : True := trivial
theorem hd.tw15937131127035763911 : True := trivial
theorem hd.tw12760418843865984484 : True := trivial
theorem hd.tw9554380323560726410 : True := trivial
theorem hd.tw1679189038381418167 : True := trivial
theorem hd.tw1684066582420797648 : True := trivial
theorem hd.tw1376742376873213730 : True := trivial
theorem hd.tw13646749026686442470 : True := trivial
theorem hd.tw1430111220828770046 : True := trivial
theorem hd.tw18317384361168066700 : True := trivial
theorem hd.tw13363759948791690916 : True := trivial
theorem hd.tw3804816569277465638 : True := trivial
theorem hd.tw8658800407431395269 : True := trivial
theorem hd.tw2833750643022045501 : True := trivial
theorem hd.tw315853661868735818 : True := trivial
theorem hd.tw9936556238001952894 : True := trivial
theorem hd.tw7323529487627749696 : True := trivial
theorem hd.tw17496680724089326060 : True := trivial
theorem hd.tw10609144580418000221 : True := trivial
theorem hd.tw17053046469031833308 : True := trivial
theorem hd.tw2285257887535141227 : True := trivial
theorem hd.tw1375191972284587385 : True := trivial
theorem hd.tw11860879004186051885 : True := trivial
theorem hd.tw1593348471420055824 : True := trivial
theorem hd.tw17959484806910401671 : True := trivial
theorem hd.tw13285736155819216336 : True := trivial
theorem hd.tw7922878120662650718 : True := trivial
theorem hd.tw10520410519497423512 : True := trivial
theorem hd.tw3233477906605081584 : True := trivial
theorem hd.tw1663335176215077574 : True := trivial
theorem hd.tw15985805657844826137 : True := trivial
theorem hd.tw12554577900409202853 : True := trivial
theorem hd.tw7979843500938714079 : True := trivial
theorem hd.tw17528288768941696008 : True := trivial
theorem hd.tw8247690881809231455 : True := trivial
theorem hd.tw1736880492116804608 : True := trivial
theorem hd.tw14918253686052502762 : True := trivial
theorem hd.tw2978612223740148077 : True := trivial
theorem hd.tw10160648010196153324 : True := trivial
theorem hd.tw7369559322958426288 : True := trivial
theorem hd.tw2912637250807930504 : True := trivial
theorem hd.tw10467659681540805947 : True := trivial
theorem hd.tw9997397339293128872 : True := trivial
theorem hd.tw9020218499954329283 : True := trivial
theorem hd.tw12417895895848420670 : True := trivial
theorem hd.tw5527248997764723023 : True := trivial
theorem hd.tw15761299398391809216 : True := trivial
theorem hd.tw2099118809025555532 : True := trivial
theorem hd.tw13523661918149305460 : True := trivial
theorem hd.tw2130919502059721314 : True := trivial
theorem hd.tw14155543516263680860 : True := trivial
theorem hd.tw6294580982759732264 : True := trivial
theorem hd.tw7158738528409181976 : True := trivial
theorem hd.tw7435102188588133671 : True := trivial
theorem hd.tw17264203626484340367 : True := trivial
theorem hd.tw8813684502266288915 : True := trivial
theorem hd.tw3633709867743635408 : True := trivial
theorem hd.tw12080518753066435587 : True := trivial
theorem hd.tw17116932448111352164 : True := trivial
theorem hd.tw16658591065604177579 : True := trivial
theorem hd.tw4120200950078661136 : True := trivial
theorem hd.tw14196693245733211009 : True := trivial
theorem hd.tw15838701065167442477 : True := trivial
theorem hd.tw4995334921522582902 : True := trivial
theorem hd.tw7523676761085639640 : True := trivial
theorem hd.tw9035141672879344120 : True := trivial
theorem hd.tw9108433323587547920 : True := trivial
theorem hd.tw12814041417227168940 : True := trivial
theorem hd.tw470379698245300629 : True := trivial
theorem hd.tw2037523925883120568 : True := trivial
theorem hd.tw8869417038319237661 : True := trivial
theorem hd.tw10290559480690978735 : True := trivial
theorem hd.tw12523843248941421630 : True := trivial
theorem hd.tw3813364523524563932 : True := trivial
theorem hd.tw15427154574247045967 : True := trivial
theorem hd.tw596054863224056068 : True := trivial
theorem hd.tw17844517257488228984 : True := trivial
theorem hd.tw5465015954700228370 : True := trivial
theorem hd.tw3893294270092263747 : True := trivial
theorem hd.tw4133511687151037718 : True := trivial
theorem hd.tw10333352096358209000 : True := trivial
theorem hd.tw4473601248164965751 : True := trivial
theorem hd.tw11045805451268236915 : True := trivial
theorem hd.tw11789871030375952785 : True := trivial
theorem hd.tw9359100271618620842 : True := trivial
theorem hd.tw16389639910430911589 : True := trivial
theorem hd.tw10372619943522846599 : True := trivial
theorem hd.tw2533479606112164288 : True := trivial
theorem hd.tw5681824273169052882 : True := trivial
theorem hd.tw14655388690780908325 : True := trivial
theorem hd.tw9984525554150005091 : True := trivial
theorem hd.tw13921092866812318161 : True := trivial
theorem hd.tw9969274610016975368 : True := trivial
theorem hd.tw11254722043530787710 : True := trivial
theorem hd.tw4576726525565336287 : True := trivial
theorem hd.tw241036977954681835 : True := trivial
theorem hd.tw2753830164016153326 : True := trivial
theorem hd.tw3252937912623020915 : True := trivial
theorem hd.tw18224289795319778584 : True := trivial
theorem hd.tw3106984710103243030 : True := trivial
theorem hd.tw17419462552304161117 : True := trivial
theorem hd.tw834230593188865245 : True := trivial
theorem hd.tw4208058423187645011 : True := trivial
theorem hd.tw8304809038471364755 : True := trivial
theorem hd.tw809312975714196093 : True := trivial
theorem hd.tw9220784511390108363 : True := trivial
theorem hd.tw7722392897760830541 : True := trivial
theorem hd.tw2432047669268934669 : True := trivial
theorem hd.tw4107959720207944298 : True := trivial
theorem hd.tw2705934261770998061 : True := trivial
theorem hd.tw1110595980036245258 : True := trivial
theorem hd.tw11037697161129288716 : True := trivial
theorem hd.tw1869852560121635941 : True := trivial
theorem hd.tw5905433296421635255 : True := trivial
theorem hd.tw1205806799282316529 : True := trivial
theorem hd.tw11741642666647303814 : True := trivial
theorem hd.tw13178631457281930112 : True := trivial
theorem hd.tw13494187743779366586 : True := trivial
theorem hd.tw17293514016682200190 : True := trivial
theorem hd.tw17081062950868444197 : True := trivial
theorem hd.tw2835965986103818419 : True := trivial
theorem hd.tw13362436133544975493 : True := trivial
theorem hd.tw15174824276329342012 : True := trivial
theorem hd.tw1625025833535450987 : True := trivial
theorem hd.tw6888837575165043705 : True := trivial
theorem hd.tw3867004350056599315 : True := trivial
theorem hd.tw17455101817435828 : True := trivial
theorem hd.tw1507436171622351804 : True := trivial
theorem hd.tw8673400595249229154 : True := trivial
theorem hd.tw10861126263809439757 : True := trivial
theorem hd.tw4097962910503558364 : True := trivial
theorem hd.tw10963764532739277673 : True := trivial
theorem hd.tw17688353665247591275 : True := trivial
theorem hd.tw13528200219981787694 : True := trivial
theorem hd.tw8067012113015069223 : True := trivial
theorem hd.tw3119898662394001907 : True := trivial
theorem hd.tw6717281897982598521 : True := trivial
theorem hd.tw16523814736661677991 : True := trivial
theorem hd.tw17867848785651572218 : True := trivial
theorem hd.tw1684256432053097786 : True := trivial
theorem hd.tw12178258615787451773 : True := trivial
theorem hd.tw17708549264736532762 : True := trivial
theorem hd.tw387635415428671800 : True := trivial
theorem hd.tw12120114252644682609 : True := trivial
theorem hd.tw4572182746369262901 : True := trivial
theorem hd.tw9904519256372446400 : True := trivial
theorem hd.tw14563382530849032862 : True := trivial
theorem hd.tw17166777514618364983 : True := trivial
theorem hd.tw18369295788543027004 : True := trivial
theorem hd.tw12833702911084085823 : True := trivial
theorem hd.tw16351626929319822182 : True := trivial
theorem hd.tw7048923258260689074 : True := trivial
theorem hd.tw14456674081231325812 : True := trivial
theorem hd.tw18204512866125301824 : True := trivial
theorem hd.tw3525777567312449456 : True := trivial
theorem hd.tw2593120994556077167 : True := trivial
theorem hd.tw4943815074980081091 : True := trivial
theorem hd.tw8046165457965074013 : True := trivial
theorem hd.tw5968033961058822595 : True := trivial
theorem hd.tw11583254335740435155 : True := trivial
theorem hd.tw12163225461003903108 : True := trivial
theorem hd.tw6345852804136771707 : True := trivial
theorem hd.tw8945416701938853987 : True := trivial
theorem hd.tw10350453421894587042 : True := trivial
theorem hd.tw6217333965849327097 : True := trivial
theorem hd.tw17579766925985402140 : True := trivial
theorem hd.tw15548127020308894337 : True := trivial
theorem hd.tw11662946457152977400 : True := trivial
theorem hd.tw1105744025216059557 : True := trivial
theorem hd.tw14467252517523166016 : True := trivial
theorem hd.tw370769732361498324 : True := trivial
theorem hd.tw13729390423563426517 : True := trivial
theorem hd.tw13531011098984814849 : True := trivial
theorem hd.tw6783663290271671565 : True := trivial
theorem hd.tw15959777869667798646 : True := trivial
theorem hd.tw7789762896061225996 : True := trivial
theorem hd.tw12904074783151919690 : True := trivial
theorem hd.tw16473854304297425185 : True := trivial
theorem hd.tw16218863009382424484 : True := trivial
theorem hd.tw13865183287999703066 : True := trivial
theorem hd.tw13420679969869780273 : True := trivial
theorem hd.tw8895063034847118539 : True := trivial
theorem hd.tw5567003268272805338 : True := trivial
theorem hd.tw17382339130045443232 : True := trivial
theorem hd.tw15427021724673231759 : True := trivial
theorem hd.tw790615376425166514 : True := trivial
theorem hd.tw193339235740538353 : True := trivial
theorem hd.tw8924035323227425384 : True := trivial
theorem hd.tw4950500726789176154 : True := trivial
theorem hd.tw13523472143587006298 : True := trivial
theorem hd.tw3557674435575574305 : True := trivial
theorem hd.tw17413141834524375368 : True := trivial
theorem hd.tw9593043396327642396 : True := trivial
theorem hd.tw1160549530973305023 : True := trivial
theorem hd.tw18040819907663500611 : True := trivial
theorem hd.tw12872270419331985645 : True := trivial
theorem hd.tw2924976536338182687 : True := trivial
theorem hd.tw1665609795375089724 : True := trivial
theorem hd.tw18436528089568053973 : True := trivial
theorem hd.tw1448414259382960616 : True := trivial
theorem hd.tw9923575402557834498 : True := trivial
theorem hd.tw5183556656955748321 : True := trivial
theorem hd.tw7649474118199308231 : True := trivial
theorem hd.tw16827127668728444577 : True := trivial
theorem hd.tw6339843913769030975 : True := trivial
theorem hd.tw4711282262079113759 : True := trivial
theorem hd.tw4628982674873311531 : True := trivial
theorem hd.tw18246379830458510944 : True := trivial
theorem hd.tw13368652458758189603 : True := trivial
theorem hd.tw6941733962623319348 : True := trivial
theorem hd.tw11157362923454075996 : True := trivial
theorem hd.tw15594946147575748999 : True := trivial
theorem hd.tw9427659051671651810 : True := trivial
theorem hd.tw13737046485384813592 : True := trivial
theorem hd.tw10946577071649281161 : True := trivial
theorem hd.tw2626271301749718272 : True := trivial
theorem hd.tw3274960115699870326 : True := trivial
theorem hd.tw18343414888056780288 : True := trivial
theorem hd.tw8052617880795201461 : True := trivial
theorem hd.tw8880528112693910408 : True := trivial
theorem hd.tw15851296781066066188 : True := trivial
theorem hd.tw13595447130349212279 : True := trivial
theorem hd.tw16666339213141092963 : True := trivial
theorem hd.tw7313015743458494947 : True := trivial
theorem hd.tw12932830192622386686 : True := trivial
/-- what is left of the law behind its head: its walk -/
def WalkT : Prop := WalkO pre.view_1_40 [] (XL pre.view_1_40 []) (kHook pre.heap_1_39 [2, 3, 15, 17, 18, 20, 21, 22, 25, 30, 31, 33, 34, 36, 37, 38, 40, 41, 43, 44, 45, 46, 47, 48, 51, 58, 60, 61, 63, 64, 65, 66, 67, 70, 71, 72, 73, 75, 76, 78, 79, 80, 82, 83, 85, 86, 87, 89, 90, 92, 93, 94, 96, 97, 99, 100, 101, 103, 104, 106, 107, 108, 110, 111, 113, 114, 115, 117, 118, 120, 121, 122, 124, 125, 127, 128, 129, 131, 132, 134, 135, 136, 138, 139, 141, 142, 150, 152, 153, 155, 156, 157, 159, 160, 162, 163, 164, 166, 167, 169, 170, 171, 173, 174, 176, 177, 178, 180, 181, 183, 184, 185, 187, 188, 190, 191, 192, 194, 195, 197, 198, 199, 201, 202, 204, 205, 206, 208, 209, 211, 212, 213, 215, 216, 218, 219, 220, 222, 223, 225, 226, 227, 229, 230, 232, 233, 234, 236, 237, 239, 240, 241, 243, 244, 246, 247, 248, 250, 251, 253, 254, 255, 257, 258, 260, 261, 262, 264, 265, 267, 268, 269, 271, 272, 274, 275, 276, 278, 279, 281, 282, 283, 285, 286, 288, 289, 290, 292, 293, 295, 296, 297, 299, 300, 302, 303, 304, 306, 307, 309, 310, 311, 313, 314, 316, 317, 318, 320, 321, 323, 324, 325, 327, 328, 330, 331, 332, 334, 335, 337, 338, 339, 341, 342, 344, 345, 346, 348, 349, 351, 352, 353, 354, 355, 356, 357, 360, 367, 369, 370, 372, 373, 374, 376, 377, 379, 380, 381, 383, 384, 386, 387, 388, 390, 391, 393, 394, 395, 397, 398, 400, 401, 402, 404, 405, 407, 408, 409, 411, 412, 414, 415, 416, 418, 419, 421, 422, 423, 425, 426, 428, 429, 430, 432, 433, 435, 436, 437, 439, 440, 442, 443, 444, 446, 447, 449, 450, 451, 453, 454, 456, 457, 458, 459, 460, 463, 470, 472, 473, 475, 476, 477, 479, 480, 482, 483, 484, 486, 487, 489, 490, 491, 493, 494, 496, 497, 498, 500, 501, 503, 504, 505, 507, 508, 510, 511, 512, 514, 515, 517, 518, 519, 521, 522, 524, 525, 526, 528, 529, 531, 532, 533, 535, 536, 538, 539, 540, 542, 543, 545, 546, 547, 548, 549, 552, 555, 556, 557, 559, 560, 562, 563, 564, 566, 567, 569, 570, 571, 573, 574, 576, 577, 578, 580, 581, 583, 584, 585, 587, 588, 590, 591, 592, 594, 595, 597, 598, 599, 601, 602, 604, 605, 606, 608, 609, 611, 612, 613, 616, 617, 618, 620, 621, 623, 624, 625, 627, 628, 630, 631, 632, 635, 636, 637, 640, 641, 642, 645, 646, 647, 650, 651, 652, 655, 656] (fun _ => by kernel_rfl)).says PySem.Challenge.rw_nz0148_01.row.toRowW lawRec [] fun f vs => call f vs
inductive Kept (x : WalkT) : Prop
  | mk
theorem hole (x : WalkT) (_ : Kept x) : WalkT := x
set_option maxRecDepth 100000 in
set_option maxHeartbeats 8000000 in
theorem hd (walk : WalkT) : PySem.Challenge.rw_nz0148_01.Holds := by
  w_on
  o_law
  simp (disch := exact walk) only [(eq_true (by
    o_head (kHook pre.heap_1_39 [2, 3, 15, 17, 18, 20, 21, 22, 25, 30, 31, 33, 34, 36, 37, 38, 40, 41, 43, 44, 45, 46, 47, 48, 51, 58, 60, 61, 63, 64, 65, 66, 67, 70, 71, 72, 73, 75, 76, 78, 79, 80, 82, 83, 85, 86, 87, 89, 90, 92, 93, 94, 96, 97, 99, 100, 101, 103, 104, 106, 107, 108, 110, 111, 113, 114, 115, 117, 118, 120, 121, 122, 124, 125, 127, 128, 129, 131, 132, 134, 135, 136, 138, 139, 141, 142, 150, 152, 153, 155, 156, 157, 159, 160, 162, 163, 164, 166, 167, 169, 170, 171, 173, 174, 176, 177, 178, 180, 181, 183, 184, 185, 187, 188, 190, 191, 192, 194, 195, 197, 198, 199, 201, 202, 204, 205, 206, 208, 209, 211, 212, 213, 215, 216, 218, 219, 220, 222, 223, 225, 226, 227, 229, 230, 232, 233, 234, 236, 237, 239, 240, 241, 243, 244, 246, 247, 248, 250, 251, 253, 254, 255, 257, 258, 260, 261, 262, 264, 265, 267, 268, 269, 271, 272, 274, 275, 276, 278, 279, 281, 282, 283, 285, 286, 288, 289, 290, 292, 293, 295, 296, 297, 299, 300, 302, 303, 304, 306, 307, 309, 310, 311, 313, 314, 316, 317, 318, 320, 321, 323, 324, 325, 327, 328, 330, 331, 332, 334, 335, 337, 338, 339, 341, 342, 344, 345, 346, 348, 349, 351, 352, 353, 354, 355, 356, 357, 360, 367, 369, 370, 372, 373, 374, 376, 377, 379, 380, 381, 383, 384, 386, 387, 388, 390, 391, 393, 394, 395, 397, 398, 400, 401, 402, 404, 405, 407, 408, 409, 411, 412, 414, 415, 416, 418, 419, 421, 422, 423, 425, 426, 428, 429, 430, 432, 433, 435, 436, 437, 439, 440, 442, 443, 444, 446, 447, 449, 450, 451, 453, 454, 456, 457, 458, 459, 460, 463, 470, 472, 473, 475, 476, 477, 479, 480, 482, 483, 484, 486, 487, 489, 490, 491, 493, 494, 496, 497, 498, 500, 501, 503, 504, 505, 507, 508, 510, 511, 512, 514, 515, 517, 518, 519, 521, 522, 524, 525, 526, 528, 529, 531, 532, 533, 535, 536, 538, 539, 540, 542, 543, 545, 546, 547, 548, 549, 552, 555, 556, 557, 559, 560, 562, 563, 564, 566, 567, 569, 570, 571, 573, 574, 576, 577, 578, 580, 581, 583, 584, 585, 587, 588, 590, 591, 592, 594, 595, 597, 598, 599, 601, 602, 604, 605, 606, 608, 609, 611, 612, 613, 616, 617, 618, 620, 621, 623, 624, 625, 627, 628, 630, 631, 632, 635, 636, 637, 640, 641, 642, 645, 646, 647, 650, 651, 652, 655, 656] (fun _ => by kernel_rfl))
    case hw => w_witness2
    change WalkT
    apply_rules (newGoals := .nonDependentOnly) only [hole]
    constructor) : PySem.Challenge.rw_nz0148_01.row.Holds = True)]
set_option Elab.async false in
theorem walk_off2 : True := by
  have _v := hd.view_1_39
  w_top off
  trivial
end Nz

set_option Elab.async false
open PySem PySem.W PyProof.Rows PySem.Spec PySem.Calls PyProof.Rows.LCg
set_option maxRecDepth 100000
set_option linter.unusedVariables false
set_option maxRecDepth 100000
namespace Nz
abbrev Led := List (Addr × Obj)

/-- what a def of the text answers, over any frame that calls it -/
def Spec (w : World) (mean : ExcName → Option Value) (mg mb : Str → Option Value) (f : Addr) (dep : Nat) (news : Led) (vs : List Value) (R : Led → Value → Prop) : Prop :=
  ∀ (dp un : Nat) (gd : Option (List Code)) (cn : Str) (cs : Scope) (a : Addr) (ccd : Value) (cl : List (Str × Addr)) (outer : List Env) (A₀ : Around) (base h₀ : Heap) (L : Addr) (m : Str → Option Value) (s : Shared) (Q E : Value → Shared → Prop),
    Below A₀ base outer h₀ → Fr h₀ L s.heap m → (pre.heap_1_39 w.params).In h₀ → News h₀ L s.heap news → Top pre.view_1_40 (looseW pre.view_1_40 []) mean mg mb h₀ → cs.kind = .function → dp + dep < recursionLimit → un + 8 * dep < cLine →
    (∀ r tl h' tk', Fr h₀ L h' m → News h₀ L h' (tl ++ news) → R tl r → Q r { s with heap := h', toks := tk' }) →
    wpAny (model PySem.Challenge.rw_nz0148_01.row.prog w) (ktrTop dp un gd cn cs L a ccd cl outer) (call (.ref f) vs) Q E s
end Nz

set_option maxRecDepth 100000
namespace Nz
section
variable {prog : Program} {w : World} {A : Around} {E : Value → Shared → Prop} {s : Shared} {env : Env} {h₀ : Heap} {L : Addr} {m m₀ : Str → Option Value} {target : Expr} {body : List Stmt} {Q : Flow → Shared → Prop}
  {n : Nat} {P : Nat → Value → Heap → Prop} {news : Led} {it : Value}

/-- an iteration that stands ready: its turns hand P, and nothing of the ledger is written by it -/
inductive SrcAny (prog : Program) (w : World) (A : Around) (h₀ : Heap) (L : Addr) (m : Str → Option Value) (target : Expr) (n : Nat) (P : Nat → Value → Heap → Prop) (news : Led) (it : Value) (s : Shared) : Prop
  | mk (I : Addr) (fp wr : List Addr) (Md : Nat → Value → Heap → Prop) (St : Nat → Heap → Prop) (e : it = .ref I) (W : KTurns prog w A target I fp wr n P Md St)
    (self : ∀ i (s : Shared) (Q : Value → Shared → Prop) (E : Value → Shared → Prop), St i s.heap → Q (.ref I) s → wpAny (model prog w) A (pyIter (.ref I)) Q E s)
    (hL : L ∉ fp) (hwr : ∀ b ∈ wr, h₀.get? b = none) (hnw : ∀ p ∈ news, p.1 ∉ wr) (hst : St 0 s.heap) (hsz : ∀ b ∈ fp, b < s.heap.objs.size) (hob : ∀ i h, St i h → ∀ b ∈ wr, ∃ o, h.get? b = some o) (F : Fr h₀ L s.heap m) (N : News h₀ L s.heap news) : SrcAny prog w A h₀ L m target n P news it s

inductive NzEnd {σ : Type} (h₀ : Heap) (L : Addr) (wr : List Addr) (own : Led) (s₁ : Shared) (Ld : σ → Led) (ps : σ → List (Str × Value)) (stored : List Str) (m₀ : Str → Option Value) (R : σ → Prop) (s₂ : Shared) : Prop
  | mk (c : σ) (h' : Heap) (tk : Nat) (m' : Str → Option Value) (news' : Led) (e : s₂ = { s₁ with heap := h', toks := tk }) (F : Fr h₀ L h' m') (N : News h₀ L h' news') (ho : ∀ p ∈ own, p ∈ news') (hn : ∀ p ∈ Ld c, p ∈ news') (hw : ∀ p ∈ Ld c, p.1 ∉ wr)
    (hk : ∀ p ∈ ps c, m' p.1 = some p.2) (hr : ∀ z, (∀ p ∈ ps c, z ≠ p.1) → stored.contains z = false → m' z = m₀ z) (hR : R c) : NzEnd h₀ L wr own s₁ Ld ps stored m₀ R s₂
/-- a loop's invariant: its ledger and its names by a state of one's own -/
inductive NzInv {σ : Type} (wr : List Addr) (Ld : σ → Led) (ps : σ → List (Str × Value)) (stored : List Str) (m₀ : Str → Option Value) (R : σ → Prop) (m' : Str → Option Value) (nx : Led) : Prop
  | mk (c : σ) (e : nx = Ld c) (hw : ∀ p ∈ Ld c, p.1 ∉ wr) (hk : ∀ p ∈ ps c, m' p.1 = some p.2) (hr : ∀ z, (∀ p ∈ ps c, z ≠ p.1) → stored.contains z = false → m' z = m₀ z) (hR : R c) : NzInv wr Ld ps stored m₀ R m' nx
def NzPost {σ : Type} (h₀ : Heap) (L : Addr) (wr : List Addr) (own : Led) (s₁ : Shared) (Ld : σ → Led) (ps : σ → List (Str × Value)) (stored : List Str) (m₀ : Str → Option Value) (R : σ → Prop) (Q : Flow → Shared → Prop) (f : Flow) (s₂ : Shared) : Prop :=
  match f with
  | .ret v => Q (.ret v) s₂
  | .brk => Q .next s₂
  | _ => NzEnd h₀ L wr own s₁ Ld ps stored m₀ R s₂
theorem nz_end {σ : Type} {wr : List Addr} {own : Led} {s₁ : Shared} {Ld : σ → Led} {ps : σ → List (Str × Value)} {stored : List Str} {m' : Str → Option Value} {R : σ → Prop} {h' : Heap} {tk : Nat} {news' : Led} (c : σ)
    (F : Fr h₀ L h' m') (N : News h₀ L h' news') (ho : ∀ p ∈ own, p ∈ news') (hn : ∀ p ∈ Ld c, p ∈ news') (hw : ∀ p ∈ Ld c, p.1 ∉ wr) (hk : ∀ p ∈ ps c, m' p.1 = some p.2) (hr : ∀ z, (∀ p ∈ ps c, z ≠ p.1) → stored.contains z = false → m' z = m₀ z) (hR : R c) :
    NzEnd h₀ L wr own s₁ Ld ps stored m₀ R { s₁ with heap := h', toks := tk } := ⟨c, h', tk, m', news', rfl, F, N, ho, hn, hw, hk, hr, hR⟩

theorem nz_for {σ : Type} (S : SrcAny prog w A h₀ env.locals m₀ target n P news it s)
    (Ld : σ → Led) (ps : σ → List (Str × Value)) (stored : List Str) (R : Nat → σ → Prop) (c₀ : σ) (hn : ∀ p ∈ Ld c₀, p ∈ news) (hk : ∀ p ∈ ps c₀, m₀ p.1 = some p.2) (hR : R 0 c₀)
    (turn : ∀ i v (c : σ) (u : Str → Option Value) h tk own wr, i < n → P i v h → R i c → (∀ p ∈ Ld c, p.1 ∉ wr) → (∀ b ∈ wr, ∃ o, (b, o) ∈ own) →
      Fr h₀ env.locals h (kstB (fun z => if stored.contains z then u z else m₀ z) (ps c)) → News h₀ env.locals h (own ++ Ld c) →
      wpAny (model prog w) A (assign target env v) (fun _ s₃ => wpAny (model prog w) A (execs body env) (NzPost h₀ env.locals wr own { s with heap := h, toks := tk } Ld ps stored m₀ (R (i + 1)) Q) E s₃) E { s with heap := h, toks := tk })
    (done : ∀ (c : σ) (u : Str → Option Value) h tk, R n c → Fr h₀ env.locals h (kstB (fun z => if stored.contains z then u z else m₀ z) (ps c)) → News h₀ env.locals h (Ld c) → Q .next { s with heap := h, toks := tk }) :
    TurnsAt prog w A h₀ env target body Q E it s := by
  obtain ⟨I, fp, wr, Md, St, rfl, W, -, hL, hwr, hnw, hst, -, hob, F, N⟩ := S
  refine ⟨I, fp, wr, n, P, Md, St, m₀, Ld c₀, fun i m' nx => NzInv wr Ld ps stored m₀ (R i) m' nx, rfl, W, hL, hwr, fun p hp => hnw p (hn p hp), hst, F, fun p hp => N p (hn p hp), ⟨c₀, rfl, fun p hp => hnw p (hn p hp), hk, fun _ _ _ => rfl, hR⟩, ?_, ?_⟩
  · rintro i v m₁ news₁ h₁ tk₁ own hin hP ⟨c, rfl, hw, h1, h2, hRc⟩ hoff hown hget hall hst₁ F₁ N₁
    have hwo : ∀ b ∈ wr, ∃ o, (b, o) ∈ own := fun b hb => by
      obtain ⟨o, ho⟩ := hob _ _ hst₁ b hb
      exact ⟨o, hall b (W.sub b hb) (hwr b hb) o ho⟩
    refine wpAny_mono (turn i v c m₁ h₁ tk₁ own wr hin hP hRc hw hwo (ksw_fr h1 h2 F₁) N₁) (fun _ s₂ p => wpAny_mono p (fun f s₃ q => ?_) fun _ _ e => e) fun _ _ e => e
    have fin : NzEnd h₀ env.locals wr own { s with heap := h₁, toks := tk₁ } Ld ps stored m₀ (R (i + 1)) s₃ →
        LoopStepU h₀ env.locals wr own (NzInv wr Ld ps stored m₀ (R (i + 1))) { s with heap := h₁, toks := tk₁ } .next s₃ := by
      rintro ⟨c', h', tk', m', news', rfl, F', N', ho, hn', hw', hk', hr', hR'⟩
      refine ⟨rfl, h', tk', m', Ld c', rfl, F', fun p hp => ?_, hw', c', rfl, hw', hk', hr', hR'⟩
      rcases List.mem_append.mp hp with hp | hp
      · exact N' p (ho p hp)
      · exact N' p (hn' p hp)
    cases f with
    | ret v => exact q
    | brk => exact q
    | next => exact fin q
    | cont => exact fin q
  · rintro h' tk m' news' F' N' _ ⟨c, rfl, _, h1, h2, hRc⟩
    exact done c m' h' tk hRc (ksw_fr h1 h2 F') N'

/-- a thing of the ledger, iterated by one object -/
theorem src_walk {ax : Addr} {oa oi : Obj} {vs : List Value} {B : Heap → Prop} {S : Nat → Heap → Prop} (fr : oi.isFreed = false) (F : Fr h₀ L s.heap m) (N : News h₀ L s.heap news) (hm : (ax, oa) ∈ news)
    (W : Walks prog w A s.heap.objs.size [s.heap.objs.size, ax] [s.heap.objs.size] vs.toArray.size (fun i v => vs.toArray[i]? = some v) (fun i h => S i h ∧ B h)) (st : S 0 (s.heap.push oi) ∧ B (s.heap.push oi))
    (go : ∀ i v (s₁ : Shared) (Q : Unit → Shared → Prop) (E : Value → Shared → Prop), S i s₁.heap ∧ B s₁.heap → Q () s₁ → wpAny (model prog w) A (letOwnedTupleGo target (.ref s.heap.objs.size) v) Q E s₁)
    (ob : ∀ i h, S i h → ∃ o, h.get? s.heap.objs.size = some o) :
    SrcAny prog w A h₀ L m target vs.length (fun i v _ => vs[i]? = some v) news (.ref s.heap.objs.size) { s with heap := s.heap.push oi } := by
  have K := KTurns.ofWalks (target := target) W go
  simp only [List.size_toArray, List.getElem?_toArray] at K
  have up : ∀ c o, s.heap.get? c = some o → (s.heap.push oi).get? c = some o := fun c o e => Heap.get?_push_of_some _ e
  have at_ := N _ hm
  have one : ∀ {b}, b ∈ [s.heap.objs.size] → b = s.heap.objs.size := List.mem_singleton.mp
  refine ⟨_, _, _, _, _, rfl, K, W.self, ?_, fun b hb => one hb ▸ next_is_new F, fun p hp hb => ?_, st, ?_, fun i h q b hb => one hb ▸ ob i h q.1, F.push _, N.grown up⟩
  · simp only [List.mem_cons, List.not_mem_nil, or_false, not_or]
    exact ⟨Nat.ne_of_lt F.ns.lt, Ne.symm at_.2.1⟩
  · exact Nat.ne_of_lt (Heap.lt_size (N p hp).1) (one hb)
  · simp only [List.forall_mem_cons, Heap.size_push]
    exact ⟨Nat.lt_succ_self _, Nat.lt_succ_of_lt (Heap.lt_size at_.1), fun _ q => nomatch q⟩
/-- a tuple of the ledger is iterated -/
theorem src_tup {ax : Addr} {vs : List Value} {k : Nat} (hh : A.handled = none) (F : Fr h₀ L s.heap m) (N : News h₀ L s.heap news) (hm : (ax, ({ cls := .type "tuple", data := .seq vs.toArray k } : Obj)) ∈ news) {Q : Value → Shared → Prop}
    (h : ∀ I h', SrcAny prog w A h₀ L m target vs.length (fun i v _ => vs[i]? = some v) news (.ref I) { s with heap := h' } → Q (.ref I) { s with heap := h' }) :
    wpAny (model prog w) A (pyIter (.ref ax)) Q E s :=
  have hl : s.heap.IsTuple ax vs.toArray := ⟨_, (N _ hm).1, rfl, k, rfl⟩
  wpAny_pyIter_tuple hl (h _ _ (src_walk rfl F N hm (Walks.tuple hh _ ax (Nat.ne_of_lt (Heap.lt_size (N _ hm).1)) vs.toArray) ⟨⟨_, Heap.get?_push_size _ rfl, rfl, rfl⟩, hl.at fun o e => Heap.get?_push_of_some _ e⟩
    (fun i v s Q E st q => letGo_tupleiter st.1 q) fun i h st => let ⟨o, e, _⟩ := st; ⟨o, e⟩))
/-- a list of the ledger is iterated -/
theorem src_list {ax : Addr} {vs : List Value} {k : Nat} (hh : A.handled = none) (F : Fr h₀ L s.heap m) (N : News h₀ L s.heap news) (hm : (ax, listOf vs.toArray k) ∈ news) {Q : Value → Shared → Prop}
    (h : ∀ I h', SrcAny prog w A h₀ L m target vs.length (fun i v _ => vs[i]? = some v) news (.ref I) { s with heap := h' } → Q (.ref I) { s with heap := h' }) :
    wpAny (model prog w) A (pyIter (.ref ax)) Q E s :=
  have hl : s.heap.IsList ax vs.toArray := ⟨_, (N _ hm).1, rfl, k, rfl⟩
  wpAny_pyIter_list hl (h _ _ (src_walk rfl F N hm (Walks.list hh _ ax (Nat.ne_of_lt (Heap.lt_size (N _ hm).1)) vs.toArray) ⟨⟨_, Heap.get?_push_size _ rfl, rfl, rfl⟩, hl.at fun o e => Heap.get?_push_of_some _ e⟩
    (fun i v s Q E st q => letGo_listiter st.1 q) fun i h st => let ⟨o, e, _⟩ := st; ⟨o, e⟩))
end
end Nz

set_option maxRecDepth 100000
namespace Nz
section
variable {prog : Program} {w : World} {A : Around} {E : Value → Shared → Prop} {s : Shared} {env : Env} {h₀ : Heap} {L : Addr} {m m₀ : Str → Option Value} {target : Expr}
  {n : Nat} {P : Nat → Value → Heap → Prop} {news : Led} {it : Value}

def NzOff (wr : List Addr) (C D : Addr) (nx : Led) : Prop := ∀ p ∈ nx, p.1 ∉ wr ∧ p.1 ≠ C ∧ p.1 ≠ D

/-- the end of a comprehension's turn -/
inductive NzCEnd (h₀ : Heap) (L : Addr) (m : Str → Option Value) (s₁ : Shared) (wr : List Addr) (own : Led) (C : Addr) (oC : Obj) (D : Addr) (oD : Obj) (rest : Led → Prop) (s₂ : Shared) : Prop
  | mk (h' : Heap) (tk : Nat) (news' all : Led) (e : s₂ = { s₁ with heap := h', toks := tk }) (F : Fr h₀ L h' m) (N : News h₀ L h' all) (ho : ∀ p ∈ own, p ∈ all) (hC : (C, oC) ∈ all) (hD : (D, oD) ∈ all) (hn : ∀ p ∈ news', p ∈ all) (off : NzOff wr C D news') (r : rest news') : NzCEnd h₀ L m s₁ wr own C oC D oD rest s₂
/-- what a comprehension keeps from turn to turn -/
inductive NzCInv (h₀ : Heap) (L : Addr) (m : Str → Option Value) (s : Shared) (n : Nat) (wr : List Addr) (C D : Addr) (St : Nat → Heap → Prop) (J : Nat → List Value → Led → Prop) (k : Nat) (s' : Shared) : Prop
  | mk (h' : Heap) (tk i : Nat) (ys : List Value) (m' : Str → Option Value) (news' : Led) (e : s' = { s with heap := h', toks := tk }) (hi : i ≤ n) (ek : k = n + 1 - i) (hyl : ys.length ≤ i) (hst : St i h') (F : Fr h₀ L h' m) (hn : h'.Ns C m') (N : News h₀ L h' ((D, lst ys) :: news')) (off : NzOff wr C D news') (hJ : J i ys news') : NzCInv h₀ L m s n wr C D St J k s'
theorem nz_cend {s₁ : Shared} {wr : List Addr} {own : Led} {C : Addr} {oC : Obj} {D : Addr} {oD : Obj} {rest : Led → Prop} {h' : Heap} {tk : Nat} {all : Led} (news' : Led)
    (F : Fr h₀ L h' m) (N : News h₀ L h' all) (ho : ∀ p ∈ own, p ∈ all) (hC : (C, oC) ∈ all) (hD : (D, oD) ∈ all) (hn : ∀ p ∈ news', p ∈ all) (off : NzOff wr C D news') (r : rest news') :
    NzCEnd h₀ L m s₁ wr own C oC D oD rest { s₁ with heap := h', toks := tk } := ⟨h', tk, news', all, rfl, F, N, ho, hC, hD, hn, off, r⟩

/-- how a target is bound in the comprehension's own frame -/
def Binds (prog : Program) (w : World) (A : Around) (h₀ : Heap) (L : Addr) (base : Led) (scope : Scope) (cl : List (Str × Addr)) (env : Env) (target : Expr) (P : Nat → Value → Heap → Prop) (Bd : Nat → Value → (Str → Option Value) → Prop) : Prop :=
  ∀ (C : Addr) (i : Nat) (v : Value) (s : Shared) (m' : Str → Option Value) (Q : Unit → Shared → Prop) (E : Value → Shared → Prop), P i v s.heap → News h₀ L s.heap base → s.heap.Ns C m' →
    (∀ h' tk m'', Bd i v m'' → h'.Ns C m'' → (∀ b o, b ≠ C → s.heap.get? b = some o → h'.get? b = some o) → Q () { s with heap := h', toks := tk }) →
    wpAny (model prog w) A (assign target (compEnvC scope cl C env) v) Q E s

theorem nz_block {elt iter : Expr} {ifs : List Expr} {scope : Scope} {cl : List (Str × Addr)} {pos : Pos} {Bd : Nat → Value → (Str → Option Value) → Prop} {base : Led} {RR : Value → Addr → Result → Shared → Prop}
    (S : SrcAny prog w A h₀ L m target n P news it s) (hsz : n ≤ sizeLine) (hcell : ∀ y ∈ scope.names, y.2 ≠ .cell) (hkind : scope.kind = .function)
    (hb : Binds prog w A h₀ L base scope cl env target P Bd) (J : Nat → List Value → Led → Prop) (hJ : J 0 [] news) (hbase : ∀ i ys nx, J i ys nx → ∀ p ∈ base, p ∈ nx)
    (turn : ∀ i v ys nx own wr C oC D m₂ h tk (E' : Value → Shared → Prop), i < n → Bd i v m₂ → NsObj oC m₂ → J i ys nx → ys.length ≤ i → Fr h₀ L h m → News h₀ L h (own ++ (C, oC) :: (D, lst ys) :: nx) → NzOff wr C D nx → (∀ b ∈ wr, ∃ o, (b, o) ∈ own) →
      wpAny (model prog w) A (forIn ifs true fun c r => if r = true then do let ok ← isTrue c (compEnvC scope cl C env) (eval c (compEnvC scope cl C env)); pure (ForInStep.yield ok) else pure (ForInStep.yield r)) (fun ok s₃ =>
        if ok = true then wpAny (model prog w) A (eval elt (compEnvC scope cl C env)) (fun y => NzCEnd h₀ L m { s with heap := h, toks := tk } wr own C oC D (lst ys) (J (i + 1) (ys ++ [y]))) E' s₃
        else NzCEnd h₀ L m { s with heap := h, toks := tk } wr own C oC D (lst ys) (J (i + 1) ys) s₃) E' { s with heap := h, toks := tk })
    (hRR : ∀ D C h tk m' ys news', Fr h₀ L h m → News h₀ L h ((D, lst ys) :: news') → (∀ p ∈ news', p.1 ≠ D) → h.Ns C m' → h₀.get? C = none → h₀.get? D = none → C ≠ L → D ≠ L → C ≠ D → (∀ p ∈ news', p.1 ≠ C) → J n ys news' → RR (.ref D) C (.ok .next) { s with heap := h, toks := tk }) :
    wpAny (model prog w) A (newList []) (fun acc s₃ => wpAny (model prog w) A (newFunctionEnv scope env.globals cl [] env.qual none .none (some env)) (fun cenv s₄ =>
      codeAny (model prog w) A (.compStart (.ListComp elt [⟨target, iter, ifs, 0⟩] scope pos) 0 it acc { cenv with scope := relabel scope env }) (RR acc cenv.locals) s₄) E s₃) E s := by
  obtain ⟨I, fp, wr, Md, St, rfl, W, self, hLf, hwr, off, hst, hfp, hob, F, N⟩ := S
  refine wpAny_newObj_type (wpAny_newFunctionEnv hcell (by intro y hy; simp at hy) (fun h₁ hns₁ hsb₁ => ?_) hkind)
  dsimp only at hns₁ hsb₁ ⊢
  generalize hH2 : s.heap.push { cls := .type "list", dict := none, data := .seq ([] : List Value).toArray } = H2 at hns₁ hsb₁ ⊢
  have hC : H2.objs.size = s.heap.objs.size + 1 := by rw [← hH2, Heap.size_push]
  have hDC : s.heap.objs.size ≠ H2.objs.size := by rw [hC]; exact Nat.ne_of_lt (Nat.lt_succ_self _)
  have below : ∀ b, b < s.heap.objs.size → b ≠ H2.objs.size ∧ b ≠ s.heap.objs.size := fun b hb => ⟨by rw [hC]; exact Nat.ne_of_lt (Nat.lt_succ_of_lt hb), Nat.ne_of_lt hb⟩
  have hDf : s.heap.objs.size ∉ fp := fun hm => Nat.lt_irrefl _ (hfp _ hm)
  have hCf : H2.objs.size ∉ fp := fun hm => by have := hfp _ hm; rw [hC] at this; exact Nat.lt_irrefl _ (Nat.lt_of_succ_lt this)
  have hDw : s.heap.objs.size ∉ wr := fun h => hDf (W.sub _ h)
  have hCw : H2.objs.size ∉ wr := fun h => hCf (W.sub _ h)
  have hLw : L ∉ wr := fun h => hLf (W.sub _ h)
  have old : ∀ b o, s.heap.get? b = some o → h₁.get? b = some o := fun b o e => hsb₁.extBut b o (below b (Heap.lt_size e)).1 (Heap.get?_push_of_some _ (hH2 ▸ Heap.get?_push_of_some _ e))
  have hacc : h₁.get? s.heap.objs.size = some (lst []) := hsb₁.extBut _ _ hDC (Heap.get?_push_of_some _ (hH2 ▸ Heap.get?_push_size _ rfl))
  have hst₁ : St 0 h₁ := W.frame _ _ _ hst fun b _ o e => old b o e
  have fresh : ∀ a, s.heap.objs.size ≤ a → s.heap.get? a = none := fun a ha => by
    cases e : s.heap.get? a with
    | none => rfl
    | some o' => exact absurd (Heap.lt_size e) (Nat.not_lt.mpr ha)
  have fresh₀ : ∀ a, s.heap.objs.size ≤ a → h₀.get? a = none := fun a ha => by
    cases e : h₀.get? a with
    | none => rfl
    | some o' => have := F.keep a o' e; rw [fresh a ha] at this; cases this
  have hD₀ : h₀.get? s.heap.objs.size = none := fresh₀ _ (Nat.le_refl _)
  have hC₀ : h₀.get? H2.objs.size = none := fresh₀ _ (by rw [hC]; exact Nat.le_succ _)
  have hLlt : L < s.heap.objs.size := F.ns.lt
  have hDL : s.heap.objs.size ≠ L := Ne.symm (below L hLlt).2
  have hCL : H2.objs.size ≠ L := Ne.symm (below L hLlt).1
  have off₀ : NzOff wr H2.objs.size s.heap.objs.size news := fun p hp => ⟨off p hp, (below _ (Heap.lt_size (N p hp).1)).1, (below _ (Heap.lt_size (N p hp).1)).2⟩
  have oldw : ∀ b o, h₀.get? b = some o → b ∉ wr := fun b o e hb => by rw [hwr b hb] at e; cases e
  have loop : ∀ s₃ : Shared, s₃ = { s with heap := h₁, toks := s.toks + ([] : List (Str × Value)).length } →
      codeAny (model prog w) A (.compLoop (.ListComp elt [⟨target, iter, ifs, 0⟩] scope pos) 0 (.ref I) (.ref s.heap.objs.size) (compEnvC scope cl H2.objs.size env))
        (RR (.ref s.heap.objs.size) H2.objs.size) s₃ := by
    rintro s₃ rfl
    refine codeAny_loop rfl (NzCInv h₀ L m s n wr H2.objs.size s.heap.objs.size St J) ?_ (n + 1)
      ⟨h₁, _, 0, [], _, news, rfl, Nat.zero_le _, rfl, Nat.le_refl _, hst₁, F.keeps old, hns₁, fun p hp => ?_, off₀, hJ⟩
    · rintro k s' ⟨h', tk, i, ys, m', news', rfl, hi, rfl, hyl, hst', F', hn', N', off', hJ'⟩
      show wpAny _ _ (Sem.onRaise (compTurn _ _ _ _ _) _) _ _ _
      rw [compTurn_list]
      refine wpAny_noted (wpAny_bind (wpAny_standAt (wpAny_bind ?_)))
      have next : ∀ g : Heap, (∀ b o, b ∉ wr → h'.get? b = some o → g.get? b = some o) → Fr h₀ L g m ∧ News h₀ L g ((s.heap.objs.size, lst ys) :: news') ∧ g.Ns H2.objs.size m' := fun g hk =>
        ⟨⟨F'.ns.at' fun o e => hk _ o hLw e, fun b o e => hk b o (oldw b o e) (F'.keep b o e), F'.above⟩, fun p hp => ⟨hk _ _ (by
          rcases List.mem_cons.mp hp with rfl | hp
          · exact hDw
          · exact (off' p hp).1) (N' p hp).1, (N' p hp).2⟩, hn'.at' fun o e => hk _ o hCw e⟩
      by_cases hlt : i < n
      · refine W.item i _ _ _ hlt hst' fun v h₂ tk₂ hMd hk₂ => ?_
        refine wpAny_bind (W.go i v _ _ _ hMd fun h₃ hP hst₃ hk₃ => ?_)
        obtain ⟨F₃, N₃, hn₃⟩ := next h₃ fun b o hb x => hk₃ b o hb (hk₂ b o hb x)
        refine wpAny_bind (hb H2.objs.size i v _ m' _ _ hP (fun p hp => N₃ p (List.mem_cons_of_mem _ (hbase _ _ _ hJ' p hp))) hn₃ fun h₄ tk₄ m₄ hBd hn₄ hk₄ => ?_)
        have hst₄ : St (i + 1) h₄ := W.frame _ _ _ hst₃ fun b hb o e => hk₄ b o (fun q => hCf (q ▸ hb)) e
        have F₄ : Fr h₀ L h₄ m := ⟨F₃.ns.at' fun o e => hk₄ _ o (Ne.symm hCL) e, fun b o e => hk₄ b o (fun q => by rw [q, hC₀] at e; cases e) (F₃.keep b o e), F₃.above⟩
        obtain ⟨oC, heC, hoC⟩ := ns_obj hn₄
        have N₄ : News h₀ L h₄ (PyProof.Rows.ownOf h₀ fp h₄ ++ (H2.objs.size, oC) :: (s.heap.objs.size, lst ys) :: news') := fun p hp => by
          rcases List.mem_append.mp hp with hp | hp
          · exact news_ownOf hLf p hp
          rcases List.mem_cons.mp hp with rfl | hp
          · exact ⟨heC, hCL, hC₀⟩
          refine ⟨hk₄ _ _ ?_ (N₃ p hp).1, (N₃ p hp).2⟩
          rcases List.mem_cons.mp hp with rfl | hp
          · exact hDC
          · exact (off' p hp).2.1
        have hwo : ∀ b ∈ wr, ∃ o, (b, o) ∈ PyProof.Rows.ownOf h₀ fp h₄ := fun b hb => by
          obtain ⟨o, ho⟩ := hob _ _ hst₄ b hb
          exact ⟨o, PyProof.Rows.mem_ownOf (W.sub b hb) (hwr b hb) ho⟩
        have keepSt : ∀ h₅ all, Fr h₀ L h₅ m → News h₀ L h₅ all → (∀ p ∈ PyProof.Rows.ownOf h₀ fp h₄, p ∈ all) → St (i + 1) h₅ := fun h₅ all F₅ N₅ ho => by
          refine W.frame _ _ _ hst₄ fun b hb o e => ?_
          cases hn : h₀.get? b with
          | some o₀ =>
            have : o₀ = o := by have q := F₄.keep b o₀ hn; rw [e] at q; exact (Option.some.inj q).symm
            exact this ▸ F₅.keep b o₀ hn
          | none => exact (N₅ _ (ho _ (PyProof.Rows.mem_ownOf hb hn e))).1
        refine wpAny_bind (wpAny_mono (turn i v ys news' _ wr H2.objs.size oC s.heap.objs.size m₄ h₄ tk₄ _ hlt hBd hoC hJ' hyl F₄ N₄ off' hwo) (fun ok s₄ h₄' => ?_) fun _ _ e => e)
        cases ok with
        | true =>
          simp only [if_true] at h₄' ⊢
          refine wpAny_bind (wpAny_bind (wpAny_mono h₄' (fun y s₅ h₅' => wpAny_bind ?_) fun _ _ e => e))
          obtain ⟨h₅, tk₅, news₅, all, rfl, F₅, N₅, ho, hCa, hDa, hna, off₅, J₅⟩ := h₅'
          have hst₅ := keepSt h₅ all F₅ N₅ ho
          have zC := (N₅ _ hCa).1
          have zD := (N₅ _ hDa).1
          refine append_at (hsz := by show ys.toArray.size ≤ sizeLine; rw [List.size_toArray]; exact Nat.le_trans (Nat.le_trans hyl hi) hsz) zD fun h₆ hs₆ hD₆ => wpAny_pure (wpAny_pure ⟨rfl, ?_⟩)
          refine ⟨n + 1 - (i + 1), by omega, h₆, tk₅, i + 1, ys ++ [y], _, news₅, rfl, hlt, rfl, by rw [List.length_append, List.length_singleton]; exact Nat.succ_le_succ hyl, W.frame _ _ _ hst₅ fun b hb o e => hs₆.extBut b o (fun q => hDf (q ▸ hb)) e, F₅.change hs₆ hDL hD₀,
            (hoC.ns zC).sameBut hs₆ (Ne.symm hDC), fun p hp => ?_, off₅, J₅⟩
          rcases List.mem_cons.mp hp with rfl | hp
          · exact ⟨hD₆.trans (congrArg some (lst_snoc ys y)), hDL, hD₀⟩
          · exact ⟨hs₆.extBut _ _ (off₅ p hp).2.2 (N₅ _ (hna p hp)).1, (N₅ _ (hna p hp)).2⟩
        | false =>
          simp only [Bool.false_eq_true, if_false] at h₄' ⊢
          obtain ⟨h₅, tk₅, news₅, all, rfl, F₅, N₅, ho, hCa, hDa, hna, off₅, J₅⟩ := h₄'
          have hst₅ := keepSt h₅ all F₅ N₅ ho
          have zC := (N₅ _ hCa).1
          refine wpAny_pure ⟨rfl, n + 1 - (i + 1), by omega, h₅, tk₅, i + 1, ys, _, news₅, rfl, hlt, rfl, Nat.le_succ_of_le hyl, hst₅, F₅, hoC.ns zC, fun p hp => ?_, off₅, J₅⟩
          rcases List.mem_cons.mp hp with rfl | hp
          · exact N₅ _ hDa
          · exact N₅ _ (hna p hp)
      · obtain rfl : i = n := Nat.le_antisymm hi (Nat.not_lt.mp hlt)
        refine W.done _ _ _ hst' fun h₂ tk₂ hk₂ => ?_
        obtain ⟨F₂, N₂, hn₂⟩ := next h₂ hk₂
        exact wpAny_pure (hRR _ _ h₂ tk₂ _ ys news' F₂ N₂ (fun p hp => (off' p hp).2.2) hn₂ hC₀ hD₀ hCL hDL (Ne.symm hDC) (fun p hp => (off' p hp).2.1) hJ')
    · rcases List.mem_cons.mp hp with rfl | hp
      · exact ⟨hacc, hDL, hD₀⟩
      · exact ⟨old _ _ (N p hp).1, (N p hp).2⟩
  exact codeAny_compStart_list (loop _ rfl) (self 0 _ _ _ hst₁ (loop _ rfl))

/-- what a turn of the comprehension must show -/
def NzCTurn (prog : Program) (w : World) (A : Around) (h₀ : Heap) (L : Addr) (m : Str → Option Value) (env : Env) (elt : Expr) (ifs : List Expr) (scope : Scope) (cl : List (Str × Addr)) (n : Nat) (Bd : Nat → Value → (Str → Option Value) → Prop) (J : Nat → List Value → Led → Prop) (s : Shared) : Prop :=
  ∀ i v ys nx own wr C oC D m₂ h tk (E' : Value → Shared → Prop), i < n → Bd i v m₂ → NsObj oC m₂ → J i ys nx → ys.length ≤ i → Fr h₀ L h m → News h₀ L h (own ++ (C, oC) :: (D, lst ys) :: nx) → NzOff wr C D nx → (∀ b ∈ wr, ∃ o, (b, o) ∈ own) →
      wpAny (model prog w) A (forIn ifs true fun c r => if r = true then do let ok ← isTrue c (compEnvC scope cl C env) (eval c (compEnvC scope cl C env)); pure (ForInStep.yield ok) else pure (ForInStep.yield r)) (fun ok s₃ =>
        if ok = true then wpAny (model prog w) A (eval elt (compEnvC scope cl C env)) (fun y => NzCEnd h₀ L m { s with heap := h, toks := tk } wr own C oC D (lst ys) (J (i + 1) (ys ++ [y]))) E' s₃
        else NzCEnd h₀ L m { s with heap := h, toks := tk } wr own C oC D (lst ys) (J (i + 1) ys) s₃) E' { s with heap := h, toks := tk }

/-- the source is reached: it is iterated, each turn holds, and behind it the list is handed on -/
inductive NzCSrc (prog : Program) (w : World) (A : Around) (h₀ : Heap) (L : Addr) (m : Str → Option Value) (env : Env) (target elt : Expr) (ifs : List Expr) (scope : Scope) (cl : List (Str × Addr)) (fin : Value → Shared → Led → List Value → Prop) (it : Value) (s : Shared) : Prop
  | mk (n : Nat) (P : Nat → Value → Heap → Prop) (news : Led) (Bd : Nat → Value → (Str → Option Value) → Prop) (J : Nat → List Value → Led → Prop) (base : Led) (S : SrcAny prog w A h₀ L m target n P news it s) (hsz : n ≤ sizeLine) (hb : Binds prog w A h₀ L base scope cl env target P Bd) (hJ : J 0 [] news) (hbase : ∀ i ys nx, J i ys nx → ∀ p ∈ base, p ∈ nx)
    (turn : NzCTurn prog w A h₀ L m env elt ifs scope cl n Bd J s) (done : ∀ D h tk ys nx, News h₀ L h ((D, lst ys) :: nx) → (∀ p ∈ nx, p.1 ≠ D) → J n ys nx → fin (.ref D) { s with heap := h, toks := tk } nx ys) : NzCSrc prog w A h₀ L m env target elt ifs scope cl fin it s

theorem nz_ListComp {elt iter : Expr} {ifs : List Expr} {scope : Scope} {cl : List (Str × Addr)} {pos : Pos} {Q : Value → Shared → Prop} (_F₀ : Fr h₀ L s.heap m)
    (hclos : closureFor scope env = pure cl) (hcell : ∀ y ∈ scope.names, y.2 ≠ .cell) (hkind : scope.kind = .function)
    (hnames : ∀ y ∈ scope.names, y.2 = .local → scope.names.lookup y.1 = some .local)
    (h : wpAny (model prog w) A (eval iter env) (fun xv s₁ => wpAny (model prog w) A (pyIter xv) (fun it s₂ => NzCSrc prog w A h₀ L m env target elt ifs scope cl (fun v s' _ _ => Fr h₀ L s'.heap m → Q v s') it s₂) E s₁) E s)
    (hs : ∀ x, foldedSetIterable iter env x = pure x := by intro _; rfl) :
    wpAny (model prog w) A (eval (.ListComp elt [⟨target, iter, ifs, 0⟩] scope pos) env) Q E s := by
  rw [eval_ListComp]
  refine wpAny_comprehension_free (use := none) rfl hs hclos hkind hnames (wpAny_mono h (fun xv s₁ h₁ => wpAny_mono h₁ (fun it s₂ h₂ => ?_) fun _ _ e => e) fun _ _ e => e)
  obtain ⟨n, P, news, Bd, J, base, S, hsz, hb, hJ, hbase, turn, fin⟩ := h₂
  refine nz_block S hsz hcell hkind hb J hJ hbase turn ?_
  intro D C h tk m' ys news' F' N' o1 hn hC₀ hD₀ hCL hDL hCD offC hJ'
  refine ⟨m', hn, fun h'' hs'' => ?_⟩
  exact fin D h'' tk ys news' (fun p hp => ⟨hs''.extBut _ _ ((List.forall_mem_cons (p := fun q : Addr × Obj => q.1 ≠ C)).mpr ⟨Ne.symm hCD, offC⟩ p hp) (N' p hp).1, (N' p hp).2⟩) o1 hJ' (F'.change hs'' hCL hC₀)

theorem nz_Assign_ListComp {elt iter : Expr} {y : Str} {py : Pos} {ifs : List Expr} {scope : Scope} {cl : List (Str × Addr)} {pos spos : Pos} {Q : Flow → Shared → Prop} (_F₀ : Fr h₀ L s.heap m) (hLe : env.locals = L)
    (hsw : swapsWith (.ListComp elt [⟨target, iter, ifs, 0⟩] scope pos) (some (.Name y py)) spos.line env = pure true)
    (hclos : closureFor scope env = pure cl) (hcell : ∀ z ∈ scope.names, z.2 ≠ .cell) (hkind : scope.kind = .function)
    (hnames : ∀ z ∈ scope.names, z.2 = .local → scope.names.lookup z.1 = some .local)
    (hy : env.kindOf y = some .local) (hp : (env.scope.kind == .class || (env.scope.kind == .module && env.locals != env.globals)) = false)
    (h : wpAny (model prog w) A (eval iter env) (fun xv s₁ => wpAny (model prog w) A (pyIter xv) (fun it s₂ => NzCSrc prog w A h₀ L m env target elt ifs scope cl (fun v s' _ _ => Fr h₀ L s'.heap (fun z => if z = y then some v else m z) → Q .next s') it s₂) E s₁) E s)
    (hs : ∀ x, foldedSetIterable iter env x = pure x := by intro _; rfl) :
    wpAny (model prog w) A (exec (.Assign [.Name y py] (.ListComp elt [⟨target, iter, ifs, 0⟩] scope pos) spos) env) Q E s := by
  subst hLe
  rw [exec_Assign_Name_used _ _ _ _ hsw]
  refine wpAny_bind (wpAny_standAt (wpAny_bind ?_))
  show wpAny _ A (do let _ ← comprehension (.ListComp elt [⟨target, iter, ifs, 0⟩] scope pos) scope env _ (newList []) false (eval iter env) (some (assign (.Name y py) env))) _ _ s
  refine wpAny_bind (wpAny_mono (wpAny_comprehension_free (use := some (assign (.Name y py) env)) (Q := fun _ s' => Q .next s') rfl hs hclos hkind hnames
    (wpAny_mono h (fun xv s₁ h₁ => wpAny_mono h₁ (fun it s₂ h₂ => ?_) fun _ _ e => e) fun _ _ e => e)) (fun _ s' hq => wpAny_pure (wpAny_pure hq)) fun _ _ e => e)
  obtain ⟨n, P, news, Bd, J, base, S, hsz, hb, hJ, hbase, turn, fin⟩ := h₂
  refine nz_block S hsz hcell hkind hb J hJ hbase turn ?_
  intro D C h tk m' ys news' F' N' o1 hn hC₀ hD₀ hCL hDL hCD offC hJ'
  show wpAny _ A (assign (.Name y py) env (.ref D)) _ _ _
  refine wpAny_assign_Name (wpAny_storeName_local hy F'.ns (fun h₂ hn₂ hs₂ => ?_) hp)
  have hL₀ : h₀.get? env.locals = none := Heap.get?_none_of_le F'.above
  have F₂ : Fr h₀ env.locals h₂ (fun z => if z = y then some (.ref D) else m z) := ⟨hn₂, fun b o e => hs₂.extBut b o (fun q => by rw [q, hL₀] at e; cases e) (F'.keep b o e), F'.above⟩
  exact ⟨m', hn.sameBut hs₂ hCL, fun h'' hs'' => fin D h'' _ ys news' (fun p hp => ⟨hs''.extBut _ _ ((List.forall_mem_cons (p := fun q : Addr × Obj => q.1 ≠ C)).mpr ⟨Ne.symm hCD, offC⟩ p hp) (hs₂.extBut _ _ (N' p hp).2.1 (N' p hp).1), (N' p hp).2⟩) o1 hJ' (F₂.change hs'' hCL hC₀)⟩

/-- a name is bound -/
theorem binds_name {base : Led} {scope : Scope} {cl : List (Str × Addr)} {x : Str} {px : Pos} (hkind : scope.kind = .function) (hx : scope.names.lookup x = some .local) :
    Binds prog w A h₀ L base scope cl env (.Name x px) P (fun i v m => m x = some v ∧ ∃ h, P i v h) := by
  intro C i v s m' Q E hP _ hn h
  refine wpAny_assign_Name (wpAny_storeName_local (lookup_relabel_local hx) hn (fun h₃ hn₃ hs₃ => ?_) (by simp [compEnvC, relabel, hkind]))
  exact h h₃ _ _ ⟨by simp, _, hP⟩ hn₃ fun b o hb e => hs₃.extBut b o hb e
/-- a pair is bound -/
theorem binds_pair {base : Led} {scope : Scope} {cl : List (Str × Addr)} {x y : Str} {px py tp : Pos} {k : Nat} {V : Nat → Value → Value → Prop} (hh : A.handled = none) (hkind : scope.kind = .function) (hx : scope.names.lookup x = some .local) (hy : scope.names.lookup y = some .local) (hxy : x ≠ y)
    (hP : ∀ i v h, P i v h → News h₀ L h base → ∃ T a b, v = .ref T ∧ IsTup h T #[a, b] ∧ V i a b) :
    Binds prog w A h₀ L base scope cl env (.Tuple [.Name x px, .Name y py] k tp) P (fun i _ m => ∃ a b, m x = some a ∧ m y = some b ∧ V i a b) := by
  intro C i v s m' Q E hPi hNb hn h
  obtain ⟨T, a, b, rfl, ht, hV⟩ := hP i v _ hPi hNb
  refine assign_Tuple_tuple hh ht rfl rfl fun h₅ he => ?_
  have he' : ∀ b o, s.heap.get? b = some o → h₅.get? b = some o := fun b o e => he b o (Nat.ne_of_lt (Heap.lt_size e)) e
  refine assignInOrder_cons (wpAny_assign_Name (wpAny_storeName_local (lookup_relabel_local hx) (hn.at' fun o e => he' _ o e) (fun h₆ hn₆ hs₆ => ?_) (by simp [compEnvC, relabel, hkind])))
  refine assignInOrder_cons (wpAny_assign_Name (wpAny_storeName_local (lookup_relabel_local hy) hn₆ (fun h₃ hn₃ hs₃ => ?_) (by simp [compEnvC, relabel, hkind])))
  refine assignInOrder_nil ?_
  refine h h₃ _ _ ⟨a, b, ?_, by simp, hV⟩ hn₃ fun c o hc e => hs₃.extBut c o hc (hs₆.extBut c o hc (he' c o e))
  simp [hxy]
end
end Nz

set_option maxRecDepth 100000
set_option linter.unusedVariables false
namespace Nz
/-- a thing at l that zip takes: B says of a heap that it stands there with the items xs; S that the iteration at `it` has drawn i of them -/
structure Drw (l : Addr) (xs : Array Value) (B : Heap → Prop) (S : Addr → Nat → Heap → Prop) : Prop where
  keepB : ∀ h h' : Heap, (∀ o, h.get? l = some o → h'.get? l = some o) → B h → B h'
  keepS : ∀ it i (h h' : Heap), (∀ o, h.get? it = some o → h'.get? it = some o) → S it i h → S it i h'
  ob : ∀ it i (h : Heap), S it i h → ∃ o, h.get? it = some o
  lt : ∀ h : Heap, B h → l < h.objs.size
  opens : ∀ (prog : Program) (w : World) (A : Around) (E : Value → Shared → Prop) (s : Shared) (Q : Value → Shared → Prop), B s.heap →
    (∀ h', S s.heap.objs.size 0 h' → (∀ c o, s.heap.get? c = some o → h'.get? c = some o) → h'.objs.size = s.heap.objs.size + 1 → Q (.ref s.heap.objs.size) { s with heap := h' }) → wpAny (model prog w) A (pyIter (.ref l)) Q E s
  next : ∀ (prog : Program) (w : World) (A : Around) (E : Value → Shared → Prop) (s : Shared) (it : Addr) (i : Nat) (Q : Value → Shared → Prop), A.handled = none → B s.heap → S it i s.heap →
    (∀ x h', xs[i]? = some x → S it (i + 1) h' → Heap.SameBut it s.heap h' → Q x { s with heap := h' }) →
    (∀ h' e, xs[i]? = none → Heap.ExtBut it s.heap h' → (∃ o, h'.get? e = some o ∧ o.cls = .type "StopIteration") → E (.ref e) { s with heap := h' }) → wpAny (model prog w) A (Builtin.SmallTypes.nextOf (.ref it)) Q E s

theorem drw_list {l : Addr} {xs : Array Value} : Drw l xs (fun h => h.IsList l xs) (fun it i h => h.IsListIter it l i) where
  keepB := fun h h' k b => b.at k
  keepS := fun it i h h' k st => st.at k
  ob := fun it i h st => let ⟨o, e, _⟩ := st; ⟨o, e⟩
  lt := fun h b => let ⟨o, e, _⟩ := b; Heap.lt_size e
  opens := fun prog w A E s Q b hQ => wpAny_pyIter_list b (hQ _ ⟨_, Heap.get?_push_size _ rfl, rfl, rfl⟩ (fun c o e => Heap.get?_push_of_some _ e) (Heap.size_push ..))
  next := fun prog w A E s it i Q hh b st hQ hE => by
    cases hx : xs[i]? with
    | some x => exact wpAny_nextOf_list_item st b hx fun h' => hQ x h' hx
    | none => exact wpAny_nextOf_list_end hh st b hx fun h' e => hE h' e hx

/-- a tuple's iterator is stepped; the list's is the library's -/
theorem drw_tup {l : Addr} {xs : Array Value} : Drw l xs (fun h => h.IsTuple l xs) (fun it i h => h.IsTupleIter it l i) where
  keepB := fun h h' k b => b.at k
  keepS := fun it i h h' k st => st.at k
  ob := fun it i h st => let ⟨o, e, _⟩ := st; ⟨o, e⟩
  lt := fun h b => let ⟨o, e, _⟩ := b; Heap.lt_size e
  opens := fun prog w A E s Q b hQ => wpAny_pyIter_tuple b (hQ _ ⟨_, Heap.get?_push_size _ rfl, rfl, rfl⟩ (fun c o e => Heap.get?_push_of_some _ e) (Heap.size_push ..))
  next := fun prog w A E s it i Q hh b st hQ hE => by
    have hT := st.typeIs
    obtain ⟨⟨oc, od, oD, os⟩, ho, hc, hd⟩ := st
    obtain ⟨⟨lc, ld, lD, ls⟩, hol, _, nl, hdl⟩ := b
    dsimp only at hc hd hdl
    subst hc hd hdl
    cases s
    refine wpAny_bind (wpAny_callSpecial?_slot (name := Str.ofString "__next__") hT F.slot_tuple_iterator_next (wpAny_call_entry F.slot_tuple_iterator_next hT F.entry_tuple_iterator_next ?_ (F.args_tuple_iterator_next_1 _)))
    have hh1 : A.in1.handled = none := hh
    wp_walk
    cases hx : xs[i]? with
    | some x =>
      rw [show xs[((i : Int)).toNat]? = some x from hx]
      wp_walk
      exact ⟨_, rfl, wpAny_pure (hQ x _ hx ⟨_, Heap.get?_update_self _ ho rfl, rfl, rfl⟩ (Heap.SameBut.update ..))⟩
    | none =>
      rw [show xs[((i : Int)).toNat]? = none from hx]
      wp_walk
      exact wpAny_raiseNew_none hh1 (hE _ _ hx (((Heap.SameBut.update ..).extBut.push _).push _) ⟨_, Heap.get?_push_size _ rfl, rfl⟩)

/-- what zip makes at n, n + 1, .. n + 4: the two iterations, the tuple of both, the tuple that it hands out, itself -/
inductive ZipAt (S1 S2 : Addr → Nat → Heap → Prop) (n i j : Nat) (t : Value) (h : Heap) : Prop
  | mk (z : IsZip h (n + 4) (n + 2) (n + 3) t) (ti : IsPair h (n + 2) (.ref n) (.ref (n + 1))) (a b : Value) (to : IsPair h (n + 3) a b) (s1 : S1 n i h) (s2 : S2 (n + 1) j h)

section
variable {l1 l2 : Addr} {xs ys : Array Value} {B1 B2 : Heap → Prop} {S1 S2 : Addr → Nat → Heap → Prop}
theorem zip_made (D1 : Drw l1 xs B1 S1) (D2 : Drw l2 ys B2 S2) : Meets (Builtin.«zip.__new__» ⟨[.type "zip", .ref l1, .ref l2], []⟩) (fun _ R s => B1 s.heap ∧ B2 s.heap ∧
    ∀ h', ZipAt S1 S2 s.heap.objs.size 0 0 .none h' → (∀ c o, s.heap.get? c = some o → h'.get? c = some o) → h'.objs.size = s.heap.objs.size + 5 → R (.ok (.ret (.ref (s.heap.objs.size + 4)))) { s with heap := h' }) :=
  .of_wp fun prog w A R s h => by
    obtain ⟨hp, g, d, tk, os⟩ := s
    obtain ⟨b1, b2, h⟩ := h
    have hsub := sub_zip
    wp_walk using D1.opens
    · exact b1
    intro h1 s1 k1 n1
    dsimp only
    wp_walk using D2.opens
    · exact D2.keepB _ _ (k1 l2) b2
    intro h2 s2 k2 n2
    dsimp only
    wp_walk
    have z1 : h1.objs.size = hp.objs.size + 1 := n1
    have z2 : h2.objs.size = hp.objs.size + 2 := by rw [n2]; exact congrArg (· + 1) z1
    refine ⟨_, rfl, ?_⟩
    simp only [Heap.size_push, z2, z1]
    have up : ∀ (o3 o4 o5 : Obj) c o, h2.get? c = some o → (((h2.push o3).push o4).push o5).get? c = some o := fun _ _ _ c o e => Heap.get?_push_of_some _ (Heap.get?_push_of_some _ (Heap.get?_push_of_some _ e))
    refine h _ ⟨?_, ?_, .none, .none, ?_, ?_, ?_⟩ (fun c o e => up _ _ _ c o (k2 c o (k1 c o e))) ?_
    · exact Heap.get?_push_at (by simp only [Heap.size_push, z2]) rfl
    · exact Heap.get?_push_of_some _ (Heap.get?_push_of_some _ (Heap.get?_push_at z2.symm rfl))
    · exact Heap.get?_push_of_some _ (Heap.get?_push_at (by simp only [Heap.size_push, z2]) rfl)
    · exact D1.keepS _ _ _ _ (fun o e => up _ _ _ _ o (k2 _ o e)) s1
    · have s2' : S2 h1.objs.size 0 h2 := s2
      rw [z1] at s2'
      exact D2.keepS _ _ _ _ (fun o e => up _ _ _ _ o e) s2'
    · simp only [Heap.size_push, z2]

variable {prog : Program} {w : World} {A : Around} {E : Value → Shared → Prop} {s : Shared}
/-- zip(..) and the iteration over it -/
theorem zip_call (D1 : Drw l1 xs B1 S1) (D2 : Drw l2 ys B2 S2) {Q : Value → Shared → Prop} (b1 : B1 s.heap) (b2 : B2 s.heap)
    (h : ∀ h', ZipAt S1 S2 s.heap.objs.size 0 0 .none h' → (∀ c o, s.heap.get? c = some o → h'.get? c = some o) → h'.objs.size = s.heap.objs.size + 5 → Q (.ref (s.heap.objs.size + 4)) { s with heap := h' }) :
    wpAny (model prog w) A (call (.type "zip") [.ref l1, .ref l2]) (fun xv s₁ => wpAny (model prog w) A (pyIter xv) Q E s₁) E s :=
  callType_new F.called_zip (by decide) (F.typeCall_zip_2 _ _) (F.newCall_zip_2 _ _) (fun obj => F.args_object_init_3 obj _ _) F.entry_zip_new (zip_made D1 D2) ⟨b1, b2, fun h' Z k n => by
    have hz := Z
    obtain ⟨z, _⟩ := hz
    exact ⟨⟨_, z, rfl⟩, wpAny_pyIter_zip z (h h' Z k n)⟩⟩

set_option maxHeartbeats 4000000 in
/-- a step of zip: a pair, or the end -/
theorem zip_next (D1 : Drw l1 xs B1 S1) (D2 : Drw l2 ys B2 S2) {n k : Nat} {Q : Value → Shared → Prop} (hh : A.handled = none) (q1 : l1 < n) (q2 : l2 < n) (b1 : B1 s.heap) (b2 : B2 s.heap) (Z : ZipAt S1 S2 n k k .none s.heap)
    (hQ : ∀ x y (T : Addr) h', xs[k]? = some x → ys[k]? = some y → ZipAt S1 S2 n (k + 1) (k + 1) (rawInt T) h' → IsPair h' T x y → s.heap.objs.size ≤ T → (∀ c o, c ≠ n → c ≠ n + 1 → c ≠ n + 3 → c ≠ n + 4 → s.heap.get? c = some o → h'.get? c = some o) → Q (.ref T) { s with heap := h' })
    (hE : ∀ h' e, xs[k]? = none ∨ ys[k]? = none → (∀ c o, c ≠ n → c ≠ n + 1 → c ≠ n + 3 → c ≠ n + 4 → s.heap.get? c = some o → h'.get? c = some o) → (∃ o, h'.get? e = some o ∧ o.cls = .type "StopIteration") → E (.ref e) { s with heap := h' }) :
    wpAny (model prog w) A (Builtin.«zip.__next__» ⟨[.ref (n + 4)], []⟩) (fun fin s' => ∃ v, fin = .done (.ret v) ∧ Q v s') E s := by
  obtain ⟨hz, hTI, a, b, hTO, h1, h2⟩ := Z
  obtain ⟨hp, g, d, tk, os⟩ := s
  have n43 : n + 3 ≠ n + 4 := by omega
  have zn : n ≠ n + 4 := by omega
  have z1 : n + 1 ≠ n + 4 := by omega
  have tn : n ≠ n + 3 := by omega
  have t1 : n + 1 ≠ n + 3 := by omega
  have n1 : n ≠ n + 1 := by omega
  have l1z : l1 ≠ n + 4 := Nat.ne_of_lt (Nat.lt_add_right 4 q1)
  have l2z : l2 ≠ n + 4 := Nat.ne_of_lt (Nat.lt_add_right 4 q2)
  have l2n : l2 ≠ n := Nat.ne_of_lt q2
  have l2t : l2 ≠ n + 3 := Nat.ne_of_lt (Nat.lt_add_right 3 q2)
  have stop : ∀ (h₂ : Heap) (e : Addr) (o : Obj), h₂.get? (n + 4) = some o → o.cls = .type "zip" → (∃ o, h₂.get? e = some o ∧ o.cls = .type "StopIteration") →
      ∃ o, (h₂.update (n + 4) (Obj.mapFields fun v => v.setIfInBounds 0 Value.none)).get? e = some o ∧ o.cls = .type "StopIteration" := fun h₂ e o ho hc ⟨oe, he, hce⟩ =>
    ⟨oe, Heap.get?_update_of_ne _ (fun q => by subst q; rw [ho] at he; cases he; rw [hc] at hce; injection hce with v; exact absurd v (by decide)) he, hce⟩
  wp_walk using wpAny_onRaise, D1.next
  · exact hh
  · exact D1.keepB _ _ (fun o e => Heap.get?_update_of_ne _ l1z.symm e) b1
  · exact D1.keepS _ k _ _ (fun o e => Heap.get?_update_of_ne _ zn.symm e) h1
  rotate_left
  · intro h₂ e hx hs₂ he
    have hz₂ := hs₂ (n + 4) _ zn.symm (Heap.get?_update_self _ hz rfl)
    wp_walk
    exact hE _ e (.inl hx) (fun c o c0 _ _ c4 u => Heap.get?_update_of_ne _ c4.symm (hs₂ c o c0 (Heap.get?_update_of_ne _ c4.symm u))) (stop _ e _ hz₂ rfl he)
  intro x h₂ hx h1₂ hs₂
  have hz₂ := hs₂.extBut (n + 4) _ zn.symm (Heap.get?_update_self _ hz rfl)
  have hTO₂ := hs₂.extBut (n + 3) _ tn.symm (Heap.get?_update_of_ne _ n43.symm hTO)
  dsimp only at hTO₂ ⊢
  wp_walk using wpAny_onRaise, D2.next
  · exact hh
  · exact D2.keepB _ _ (fun o e => Heap.get?_update_of_ne _ l2t.symm (hs₂.extBut l2 o l2n (Heap.get?_update_of_ne _ l2z.symm e))) b2
  · exact D2.keepS _ k _ _ (fun o e => Heap.get?_update_of_ne _ t1.symm (hs₂.extBut _ o n1.symm (Heap.get?_update_of_ne _ z1.symm e))) h2
  rotate_left
  · intro h₄ e hy hs₄ he
    have hz₄ := hs₄ (n + 4) _ z1.symm (Heap.get?_update_of_ne _ n43 hz₂)
    wp_walk
    exact hE _ e (.inr hy) (fun c o c0 c1 c3 c4 u => Heap.get?_update_of_ne _ c4.symm (hs₄ c o c1 (Heap.get?_update_of_ne _ c3.symm (hs₂.extBut c o c0 (Heap.get?_update_of_ne _ c4.symm u))))) (stop _ e _ hz₄ rfl he)
  intro y h₄ hy h2₄ hs₄
  have hz₄ := hs₄.extBut (n + 4) _ z1.symm (Heap.get?_update_of_ne _ n43 hz₂)
  have hTO₄ := hs₄.extBut (n + 3) _ t1.symm (Heap.get?_update_self _ hTO₂ rfl)
  dsimp only [Obj.mapSeq] at hTO₄ ⊢
  wp_walk
  have sz : (h₄.update (n + 3) (Obj.mapSeq fun v => v.setIfInBounds (0 + 1) y)).objs.size = hp.objs.size := by
    rw [Heap.size_after_update, hs₄.1, Heap.size_after_update, hs₂.1, Heap.size_after_update]
  have zT : n + 4 ≠ hp.objs.size := Nat.ne_of_lt (Heap.lt_size hz)
  refine ⟨_, rfl, ?_⟩
  rw [sz]
  generalize hf : Heap.update (Heap.update _ (n + 4) _) (n + 4) _ = hf'
  have up : ∀ c o, c ≠ n + 4 → c ≠ n + 3 → h₄.get? c = some o → hf'.get? c = some o := fun c o c1 c2 e => hf ▸
    Heap.get?_update_of_ne _ c1.symm (Heap.get?_update_of_ne _ c1.symm (Heap.get?_push_of_some _ (Heap.get?_update_of_ne _ c2.symm e)))
  have up2 : ∀ c o, c ≠ n + 4 → c ≠ n + 3 → c ≠ n + 1 → h₂.get? c = some o → hf'.get? c = some o := fun c o c1 c2 c4 e => up c o c1 c2 (hs₄.extBut c o c4 (Heap.get?_update_of_ne _ c2.symm e))
  have up3 : ∀ c o, c ≠ n → c ≠ n + 1 → c ≠ n + 3 → c ≠ n + 4 → hp.get? c = some o → hf'.get? c = some o := fun c o c0 c1 c3 c4 e => up2 c o c4 c3 c1 (hs₂.extBut c o c0 (Heap.get?_update_of_ne _ c4.symm e))
  refine hQ x y hp.objs.size hf' hx hy ⟨?_, up3 _ _ (by omega) (by omega) (by omega) (by omega) hTI, x, y, ?_, ?_, ?_⟩ ?_ (Nat.le_refl _) up3
  · exact hf ▸ Heap.get?_update_self _ (Heap.get?_update_self _ (Heap.get?_push_of_some _ (Heap.get?_update_of_ne _ n43 hz₄)) rfl) rfl
  · exact hf ▸ Heap.get?_update_of_ne _ n43.symm (Heap.get?_update_of_ne _ n43.symm (Heap.get?_push_of_some _ (Heap.get?_update_self _ hTO₄ rfl)))
  · exact D1.keepS _ _ _ _ (fun o e => up2 n o zn tn n1 e) h1₂
  · exact D2.keepS _ _ _ _ (fun o e => up (n + 1) o z1 t1 e) h2₄
  · exact hf ▸ Heap.get?_update_of_ne _ zT (Heap.get?_update_of_ne _ zT (Heap.get?_push_at sz.symm rfl))

theorem ZipAt.keep (D1 : Drw l1 xs B1 S1) (D2 : Drw l2 ys B2 S2) {n i j : Nat} {t : Value} {h h' : Heap} (Z : ZipAt S1 S2 n i j t h) (k : ∀ d : Nat, d < 5 → ∀ o, h.get? (n + d) = some o → h'.get? (n + d) = some o) : ZipAt S1 S2 n i j t h' := by
  obtain ⟨hz, hTI, a, b, hTO, h1, h2⟩ := Z
  exact ⟨k 4 (by decide) _ hz, k 2 (by decide) _ hTI, a, b, k 3 (by decide) _ hTO, D1.keepS _ _ _ _ (k 0 (by decide)) h1, D2.keepS _ _ _ _ (k 1 (by decide)) h2⟩
abbrev ZSt (B1 B2 : Heap → Prop) (S1 S2 : Addr → Nat → Heap → Prop) (n i : Nat) (h : Heap) : Prop := ZipAt S1 S2 n i i .none h ∧ B1 h ∧ B2 h
abbrev ZMid (xs ys : Array Value) (B1 B2 : Heap → Prop) (S1 S2 : Addr → Nat → Heap → Prop) (n i : Nat) (v : Value) (h : Heap) : Prop := ∃ (T : Addr) (x y : Value), v = .ref T ∧ xs[i]? = some x ∧ ys[i]? = some y ∧ IsPair h T x y ∧ n + 4 < T ∧ ZipAt S1 S2 n (i + 1) (i + 1) (rawInt T) h ∧ B1 h ∧ B2 h
theorem zip_turns (D1 : Drw l1 xs B1 S1) (D2 : Drw l2 ys B2 S2) {elts : List Expr} {k : Nat} {pos : Pos} {n : Nat} (hh : A.handled = none) (q1 : l1 < n) (q2 : l2 < n) :
    KTurns prog w A (.Tuple elts k pos) (n + 4) [n, n + 1, n + 2, n + 3, n + 4, l1, l2] [n, n + 1, n + 3, n + 4] (min xs.size ys.size) (fun i v h => ∃ (T : Addr) (x y : Value), v = .ref T ∧ xs[i]? = some x ∧ ys[i]? = some y ∧ IsTup h T #[x, y])
      (ZMid xs ys B1 B2 S1 S2 n) (ZSt B1 B2 S1 S2 n) := by
  have e1 : ∀ d : Nat, l1 ≠ n + d := fun d => Nat.ne_of_lt (Nat.lt_add_right d q1)
  have e2 : ∀ d : Nat, l2 ≠ n + d := fun d => Nat.ne_of_lt (Nat.lt_add_right d q2)
  have out : ∀ {c : Addr} {h h' : Heap}, (∀ c o, c ≠ n → c ≠ n + 1 → c ≠ n + 3 → c ≠ n + 4 → h.get? c = some o → h'.get? c = some o) → ∀ c o, c ∉ [n, n + 1, n + 3, n + 4] → h.get? c = some o → h'.get? c = some o := fun k c o hc =>
    k c o (fun q => hc (by simp [q])) (fun q => hc (by simp [q])) (fun q => hc (by simp [q])) (fun q => hc (by simp [q]))
  refine ⟨fun b hb => by simp only [List.mem_cons, List.not_mem_nil, or_false] at hb; rcases hb with rfl | rfl | rfl | rfl <;> simp, ?_, ?_, ?_, ?_⟩
  · rintro i h h' ⟨Z, b1, b2⟩ hk
    exact ⟨Z.keep D1 D2 fun d hd => hk _ (by have : d = 0 ∨ d = 1 ∨ d = 2 ∨ d = 3 ∨ d = 4 := (by omega); rcases this with rfl | rfl | rfl | rfl | rfl <;> simp), D1.keepB _ _ (hk _ (by simp)) b1, D2.keepB _ _ (hk _ (by simp)) b2⟩
  · rintro i s Q E hi ⟨Z, b1, b2⟩ hQ
    have hz := Z
    obtain ⟨z, _⟩ := hz
    have hT : s.TypeIs (.ref (n + 4)) "zip" := ⟨_, z, rfl⟩
    refine wpAny_bind (wpAny_attempt (wpAny_callSpecial?_slot (name := Str.ofString "__next__") hT F.slot_zip_next (wpAny_call_entry F.slot_zip_next hT F.entry_zip_next (zip_next D1 D2 hh q1 q2 b1 b2 Z (fun x y T h' hx hy Z' hp hT' hk => wpAny_pure ?_) fun h' e he => ?_) (F.args_zip_next_1 _))))
    · exact hQ _ h' s.toks ⟨T, x, y, rfl, hx, hy, hp, Nat.lt_of_lt_of_le (Heap.lt_size z) hT', Z', D1.keepB _ _ (fun o => hk l1 o (e1 0) (e1 1) (e1 3) (e1 4)) b1, D2.keepB _ _ (fun o => hk l2 o (e2 0) (e2 1) (e2 3) (e2 4)) b2⟩ (out (c := T) hk)
    · exact absurd he (by simp only [Array.getElem?_eq_none_iff]; omega)
  · rintro i v s Q E ⟨T, x, y, rfl, hx, hy, hp, hT, Z, b1, b2⟩ hQ
    have hz := Z
    obtain ⟨z, hTI, a, b, hTO, h1, h2⟩ := hz
    refine wpAny_letOwnedTupleGo_zip z fun h' z' hs => ?_
    have k : ∀ c o, c ≠ n + 4 → s.heap.get? c = some o → h'.get? c = some o := fun c o hc => hs.extBut c o hc
    refine hQ h' ⟨T, x, y, rfl, hx, hy, _, k T _ (Nat.ne_of_gt hT) hp, rfl, _, rfl⟩ ⟨⟨z', k _ _ (by omega) hTI, a, b, k _ _ (by omega) hTO, D1.keepS _ _ _ _ (fun o => k n o (by omega)) h1, D2.keepS _ _ _ _ (fun o => k (n + 1) o (by omega)) h2⟩, D1.keepB _ _ (fun o => k l1 o (e1 4)) b1, D2.keepB _ _ (fun o => k l2 o (e2 4)) b2⟩ ?_
    exact fun c o hc => k c o fun q => hc (by simp [q])
  · rintro s Q E ⟨Z, b1, b2⟩ hQ
    have hz := Z
    obtain ⟨z, _⟩ := hz
    have hT : s.TypeIs (.ref (n + 4)) "zip" := ⟨_, z, rfl⟩
    refine wpAny_bind (wpAny_attempt (wpAny_callSpecial?_slot (name := Str.ofString "__next__") hT F.slot_zip_next (wpAny_call_entry F.slot_zip_next hT F.entry_zip_next (zip_next D1 D2 hh q1 q2 b1 b2 Z (fun x y T h' hx hy => ?_) fun h' e _ hk he => ?_) (F.args_zip_next_1 _))))
    · have c1 := (Array.getElem?_eq_some_iff.mp hx).1
      have c2 := (Array.getElem?_eq_some_iff.mp hy).1
      omega
    · obtain ⟨o, ho, hc⟩ := he
      exact wpAny_bind (wpAny_isInstance (T := "StopIteration") (b := true) ⟨o, ho, hc⟩ isSubtype_stop (wpAny_pure (hQ h' _ (out (c := e) hk))))

variable {h₀ : Heap} {L : Addr} {m : Str → Option Value} {news : Led}
/-- zip of two things of the ledger, iterated -/
theorem src_zip (D1 : Drw l1 xs B1 S1) (D2 : Drw l2 ys B2 S2) {elts : List Expr} {k : Nat} {pos : Pos} {o1 o2 : Obj} (hh : A.handled = none) (F : Fr h₀ L s.heap m) (N : News h₀ L s.heap news) (hm1 : (l1, o1) ∈ news) (hm2 : (l2, o2) ∈ news) (b1 : B1 s.heap) (b2 : B2 s.heap) {Q : Value → Shared → Prop}
    (h : ∀ z h', SrcAny prog w A h₀ L m (.Tuple elts k pos) (min xs.size ys.size) (fun i v h => ∃ T x y, v = .ref T ∧ xs[i]? = some x ∧ ys[i]? = some y ∧ IsTup h T #[x, y]) news (.ref z) { s with heap := h' } → Q (.ref z) { s with heap := h' }) :
    wpAny (model prog w) A (call (.type "zip") [.ref l1, .ref l2]) (fun xv s₁ => wpAny (model prog w) A (pyIter xv) Q E s₁) E s := by
  refine zip_call D1 D2 b1 b2 fun h' Z hk hn => h _ h' ?_
  have a1 := N _ hm1
  have a2 := N _ hm2
  have q1 := Heap.lt_size a1.1
  have q2 := Heap.lt_size a2.1
  have qL : L < s.heap.objs.size := F.ns.lt
  have old : ∀ {a : Addr} (d : Nat), a < s.heap.objs.size → a ≠ s.heap.objs.size + d := fun d q => Nat.ne_of_lt (Nat.lt_add_right d q)
  have off : ∀ {a : Addr}, a < s.heap.objs.size → a ∉ [s.heap.objs.size, s.heap.objs.size + 1, s.heap.objs.size + 3, s.heap.objs.size + 4] := fun q hb => by
    simp only [List.mem_cons, List.not_mem_nil, or_false] at hb
    exact hb.elim (old 0 q) (·.elim (old 1 q) (·.elim (old 3 q) (old 4 q)))
  refine ⟨s.heap.objs.size + 4, _, _, _, _, rfl, zip_turns D1 D2 hh q1 q2, fun i s Q E st hQ => ?_, ?_, ?_, fun p hp => off (Heap.lt_size (N p hp).1), ⟨Z, D1.keepB _ _ (hk l1) b1, D2.keepB _ _ (hk l2) b2⟩, ?_, ?_, F.keeps hk, N.grown hk⟩
  · obtain ⟨⟨z, _⟩, _⟩ := st
    exact wpAny_pyIter_zip z hQ
  · intro hb
    simp only [List.mem_cons, List.not_mem_nil, or_false] at hb
    exact hb.elim (old 0 qL) (·.elim (old 1 qL) (·.elim (old 2 qL) (·.elim (old 3 qL) (·.elim (old 4 qL) (·.elim (fun e => a1.2.1 e.symm) (fun e => a2.2.1 e.symm))))))
  · intro b hb
    refine ktu_new F ?_
    simp only [List.mem_cons, List.not_mem_nil, or_false] at hb
    rcases hb with rfl | rfl | rfl | rfl <;> first | exact Nat.le_refl _ | exact Nat.le_add_right _ _
  · intro b hb
    show b < h'.objs.size
    simp only [List.mem_cons, List.not_mem_nil, or_false] at hb
    rw [hn]
    rcases hb with rfl | rfl | rfl | rfl | rfl | rfl | rfl <;> first | exact Nat.lt_add_right 5 q1 | exact Nat.lt_add_right 5 q2 | exact Nat.lt_add_of_pos_right (by decide) | exact Nat.add_lt_add_left (by decide) _
  · rintro i h ⟨⟨z, _, _, _, to, s1, s2⟩, _, _⟩ b hb
    simp only [List.mem_cons, List.not_mem_nil, or_false] at hb
    rcases hb with rfl | rfl | rfl | rfl
    · exact D1.ob _ _ _ s1
    · exact D2.ob _ _ _ s2
    · exact ⟨_, to⟩
    · exact ⟨_, z⟩
theorem src_zipTT {elts : List Expr} {k : Nat} {pos : Pos} {l1 l2 : Addr} {vs1 vs2 : List Value} {k1 k2 : Nat} (hh : A.handled = none) (F : Fr h₀ L s.heap m) (N : News h₀ L s.heap news)
    (hm1 : (l1, ({ cls := .type "tuple", data := .seq vs1.toArray k1 } : Obj)) ∈ news) (hm2 : (l2, ({ cls := .type "tuple", data := .seq vs2.toArray k2 } : Obj)) ∈ news) {Q : Value → Shared → Prop}
    (h : ∀ z h', SrcAny prog w A h₀ L m (.Tuple elts k pos) (min vs1.length vs2.length) (fun i v h => ∃ T x y, v = .ref T ∧ vs1[i]? = some x ∧ vs2[i]? = some y ∧ IsTup h T #[x, y]) news (.ref z) { s with heap := h' } → Q (.ref z) { s with heap := h' }) :
    wpAny (model prog w) A (call (.type "zip") [.ref l1, .ref l2]) (fun xv s₁ => wpAny (model prog w) A (pyIter xv) Q E s₁) E s :=
  src_zip (drw_tup (xs := vs1.toArray)) (drw_tup (xs := vs2.toArray)) hh F N hm1 hm2 ⟨_, (N _ hm1).1, rfl, k1, rfl⟩ ⟨_, (N _ hm2).1, rfl, k2, rfl⟩ fun z h' S => h z h' (by simpa using S)
theorem src_zipTL {elts : List Expr} {k : Nat} {pos : Pos} {l1 l2 : Addr} {vs1 vs2 : List Value} {k1 k2 : Nat} (hh : A.handled = none) (F : Fr h₀ L s.heap m) (N : News h₀ L s.heap news)
    (hm1 : (l1, ({ cls := .type "tuple", data := .seq vs1.toArray k1 } : Obj)) ∈ news) (hm2 : (l2, listOf vs2.toArray k2) ∈ news) {Q : Value → Shared → Prop}
    (h : ∀ z h', SrcAny prog w A h₀ L m (.Tuple elts k pos) (min vs1.length vs2.length) (fun i v h => ∃ T x y, v = .ref T ∧ vs1[i]? = some x ∧ vs2[i]? = some y ∧ IsTup h T #[x, y]) news (.ref z) { s with heap := h' } → Q (.ref z) { s with heap := h' }) :
    wpAny (model prog w) A (call (.type "zip") [.ref l1, .ref l2]) (fun xv s₁ => wpAny (model prog w) A (pyIter xv) Q E s₁) E s :=
  src_zip (drw_tup (xs := vs1.toArray)) (drw_list (xs := vs2.toArray)) hh F N hm1 hm2 ⟨_, (N _ hm1).1, rfl, k1, rfl⟩ ⟨_, (N _ hm2).1, rfl, k2, rfl⟩ fun z h' S => h z h' (by simpa using S)
end
end Nz

set_option maxRecDepth 100000
set_option linter.unusedVariables false
namespace Nz
abbrev tupO (vs : List Value) : Obj := { cls := .type "tuple", data := .seq vs.toArray }

theorem spec_use {w : World} {mean : ExcName → Option Value} {mg mb : Str → Option Value} {f : Addr} {dep : Nat} {news : Led} {vs : List Value} {R : Led → Value → Prop} (H : Spec w mean mg mb f dep news vs R)
    {dp un : Nat} {gd : Option (List Code)} {cn : Str} {cs : Scope} {a : Addr} {ccd : Value} {cl : List (Str × Addr)} {outer : List Env} {A₀ : Around} {base h₀ : Heap} {L : Addr} {m : Str → Option Value} {s : Shared} {Q E : Value → Shared → Prop}
    (B : Below A₀ base outer h₀) (F : Fr h₀ L s.heap m) (X : (pre.heap_1_39 w.params).In h₀) (N : News h₀ L s.heap news) (T : Top pre.view_1_40 (looseW pre.view_1_40 []) mean mg mb h₀) (hk : cs.kind = .function) (hd : dp + dep < recursionLimit) (hu : un + 8 * dep < cLine)
    (ret : ∀ r tl h' tk', Fr h₀ L h' m → News h₀ L h' (tl ++ news) → R tl r → Q r { s with heap := h', toks := tk' }) :
    wpAny (model PySem.Challenge.rw_nz0148_01.row.prog w) (ktrTop dp un gd cn cs L a ccd cl outer) (call (.ref f) vs) Q E s := H _ _ _ _ _ _ _ _ _ _ _ _ _ _ _ _ _ B F X N T hk hd hu ret
theorem news_sub {h₀ h : Heap} {L : Addr} {news all : Led} (N : News h₀ L h all) (hs : ∀ p ∈ news, p ∈ all) : News h₀ L h news := fun p hp => N p (hs p hp)

/-- a ratio: a tuple of its two ints -/
inductive RtIn (news : Led) : Value → Rat → Prop
  | mk {a : Addr} {ρ : Rat} {t u : Tok} : (a, tupO [.int ρ.num t, .int (ρ.den : Int) u]) ∈ news → RtIn news (.ref a) ρ
inductive TermIn (news : Led) : Value → Int × Rat → Prop
  | mk {a : Addr} {k : Int} {t : Tok} {r : Value} {ρ : Rat} : (a, tupO [.int k t, r]) ∈ news → RtIn news r ρ → TermIn news (.ref a) (k, ρ)
inductive All2 {α : Type} (R : Value → α → Prop) : List Value → List α → Prop
  | nil : All2 R [] []
  | cons {v : Value} {x : α} {vs : List Value} {xs : List α} : R v x → All2 R vs xs → All2 R (v :: vs) (x :: xs)
structure Row where
  ts : List (Int × Rat)
  rel : Str
  b : Rat
inductive TermsIn (news : Led) : Value → List (Int × Rat) → Prop
  | mk {a : Addr} {vs : List Value} {ts : List (Int × Rat)} : (a, tupO vs) ∈ news → All2 (TermIn news) vs ts → TermsIn news (.ref a) ts
inductive RowIn (news : Led) : Value → Row → Prop
  | mk {a : Addr} {vt vb : Value} {k : Tok} {row : Row} : (a, tupO [vt, .str row.rel k, vb]) ∈ news → TermsIn news vt row.ts → RtIn news vb row.b → RowIn news (.ref a) row
section
variable {news news' : Led} {v : Value}
theorem RtIn.mono {ρ : Rat} (h : RtIn news v ρ) (hs : ∀ p ∈ news, p ∈ news') : RtIn news' v ρ := by cases h with | mk h => exact .mk (hs _ h)
theorem TermIn.mono {t : Int × Rat} (h : TermIn news v t) (hs : ∀ p ∈ news, p ∈ news') : TermIn news' v t := by cases h with | mk h r => exact .mk (hs _ h) (r.mono hs)
theorem All2.imp {α : Type} {R R' : Value → α → Prop} (hi : ∀ v x, R v x → R' v x) {vs : List Value} {xs : List α} (h : All2 R vs xs) : All2 R' vs xs := by
  induction h with
  | nil => exact .nil
  | cons h _ ih => exact .cons (hi _ _ h) ih
theorem All2.length {α : Type} {R : Value → α → Prop} {vs : List Value} {xs : List α} (h : All2 R vs xs) : vs.length = xs.length := by
  induction h with
  | nil => rfl
  | cons _ _ ih => exact congrArg (· + 1) ih
theorem All2.get {α : Type} {R : Value → α → Prop} {vs : List Value} {xs : List α} (h : All2 R vs xs) : ∀ {i : Nat} {v : Value}, vs[i]? = some v → ∃ x, xs[i]? = some x ∧ R v x := by
  induction h with
  | nil => intro i v e; exact nomatch (show none = some v from e)
  | cons h _ ih =>
    intro i v e
    cases i with
    | zero => exact ⟨_, rfl, Option.some.inj e ▸ h⟩
    | succ i => exact ih e
theorem All2.get' {α : Type} {R : Value → α → Prop} {vs : List Value} {xs : List α} (h : All2 R vs xs) : ∀ {i : Nat} {x : α}, xs[i]? = some x → ∃ v, vs[i]? = some v ∧ R v x := by
  induction h with
  | nil => intro i v e; exact nomatch (show none = some v from e)
  | cons h _ ih =>
    intro i v e
    cases i with
    | zero => exact ⟨_, rfl, Option.some.inj e ▸ h⟩
    | succ i => exact ih e
theorem All2.snoc {α : Type} {R : Value → α → Prop} {v : Value} {x : α} (k : R v x) {vs : List Value} {xs : List α} (h : All2 R vs xs) : All2 R (vs ++ [v]) (xs ++ [x]) := by
  induction h with
  | nil => exact .cons k .nil
  | cons h _ ih => exact .cons h ih
theorem TermsIn.mono {ts : List (Int × Rat)} (h : TermsIn news v ts) (hs : ∀ p ∈ news, p ∈ news') : TermsIn news' v ts := by cases h with | mk h r => exact .mk (hs _ h) (r.imp fun _ _ k => k.mono hs)
theorem RowIn.mono {row : Row} (h : RowIn news v row) (hs : ∀ p ∈ news, p ∈ news') : RowIn news' v row := by cases h with | mk h r k => exact .mk (hs _ h) (r.mono hs) (k.mono hs)
end
/-- one new tuple, the answer -/
def RtNew (news : Led) (ρ : Rat) (tl : Led) (r : Value) : Prop := ∃ a t u, tl = [(a, tupO [.int ρ.num t, .int (ρ.den : Int) u])] ∧ r = .ref a ∧ ∀ x ∈ news, x.1 < a

-- the plain arithmetic of the leaves
theorem rt_num {n d : Int} (hd : 0 < d) : n.fdiv (Int.gcd n d : Int) = (Rat.divInt n d).num := by
  rw [Int.fdiv_eq_ediv_of_nonneg _ (Int.natCast_nonneg _), Rat.num_divInt, Int.sign_eq_one_of_pos hd, Int.one_mul, Int.gcd_comm]
theorem rt_den {n d : Int} (hd : 0 < d) : d.fdiv (Int.gcd n d : Int) = ((Rat.divInt n d).den : Int) := by
  rw [Int.fdiv_eq_ediv_of_nonneg _ (Int.natCast_nonneg _), Rat.den_divInt, if_neg (by omega), Int.gcd_comm]
  obtain ⟨k, rfl⟩ := Int.eq_ofNat_of_zero_le (Int.le_of_lt hd)
  simp
theorem gcd_pos_right {n d : Int} (hd : 0 < d) : (0 : Int) < (Int.gcd n d : Int) := by
  have := Int.gcd_pos_of_ne_zero_right n (show d ≠ 0 by omega)
  omega
theorem gcd_turn {a b : Int} {g : Nat} (ha : 0 ≤ a) (hb : 0 ≤ b) (hb0 : b ≠ 0) (e : a.gcd b = g) : 0 ≤ b ∧ 0 ≤ a.fmod b ∧ b.gcd (a.fmod b) = g := by
  have h1 := Int.fmod_nonneg_of_pos a (show 0 < b by omega)
  refine ⟨hb, h1, ?_⟩
  rw [← e, Int.fmod_eq_emod_of_nonneg _ hb]
  obtain ⟨m, rfl⟩ := Int.eq_ofNat_of_zero_le ha
  obtain ⟨n, rfl⟩ := Int.eq_ofNat_of_zero_le hb
  show Int.gcd (n : Int) ((m : Int) % (n : Int)) = Int.gcd (m : Int) (n : Int)
  rw [show (m : Int) % (n : Int) = ((m % n : Nat) : Int) from rfl, Int.gcd_natCast_natCast, Int.gcd_natCast_natCast, Nat.gcd_comm m n, Nat.gcd_rec n m, Nat.gcd_comm]
theorem gcd_less {a b : Int} (hb : 0 ≤ b) (hb0 : b ≠ 0) : (a.fmod b).toNat < b.toNat := by
  have h1 := Int.fmod_nonneg_of_pos a (show 0 < b by omega)
  have h2 := Int.fmod_lt_of_pos a (show 0 < b by omega)
  omega
theorem gcd_end {a b x y : Int} (ha : 0 ≤ a) (hb : b = 0) (e : a.gcd b = (if x < 0 then -x else x).gcd (if y < 0 then -y else y)) : a = (Int.gcd x y : Int) := by
  subst hb
  rw [Int.gcd_zero_right] at e
  have e1 : (if x < 0 then -x else x).gcd (if y < 0 then -y else y) = x.gcd y := by
    split <;> split <;> simp [Int.gcd_neg, Int.neg_gcd]
  rw [e1] at e
  omega
theorem den_pos (ρ : Rat) : (0 : Int) < (ρ.den : Int) := by have := ρ.den_pos; omega
theorem noPy {x y : Int} (h1 : -1152921504606846976 < y) (h2 : y < 1152921504606846976) : Builtin.divisionGoesByPylong x y = false := by
  refine PyProof.noPylong_of_log2 ?_
  by_cases h0 : y.natAbs = 0
  · rw [h0]; decide +kernel
  · have h60 : y.natAbs.log2 < 60 := (Nat.log2_lt h0).mpr (show y.natAbs < 2 ^ 60 by omega)
    omega
theorem gcd_le_right {n d : Int} (hd : 0 < d) : (Int.gcd n d : Int) ≤ d := by
  have := Int.gcd_le_natAbs_right n (show d ≠ 0 by omega)
  omega
theorem lcm_val {x y : Int} (hy : 0 < y) : (if x < 0 then -x else x).fdiv (Int.gcd x y : Int) * y = (Int.lcm x y : Int) := by
  rw [Int.fdiv_eq_ediv_of_nonneg _ (Int.natCast_nonneg _)]
  have hg := gcd_pos_right (n := x) hy
  have e : (if x < 0 then -x else x) = (x.natAbs : Int) := by split <;> omega
  rw [e, Int.lcm, show y = (y.natAbs : Int) by omega]
  generalize hx : x.natAbs = a
  rw [Int.gcd, hx]
  generalize (y.natAbs) = b
  simp only [Int.natAbs_natCast]
  rw [Nat.lcm, ← Int.natCast_ediv, ← Int.natCast_mul]
  congr 1
  rw [Nat.mul_comm, ← Nat.mul_div_assoc _ (Nat.gcd_dvd_left a b), Nat.mul_comm]
theorem rtNew_mk {news : Led} {x y g : Int} {D : Addr} {t u : Tok} (hg : g = (Int.gcd x y : Int)) (hy : 0 < y) (l : ∀ p ∈ news, p.1 < D) : RtNew news (Rat.divInt x y) [(D, tupO [.int (x.fdiv g) t, .int (y.fdiv g) u])] (.ref D) := by
  subst hg
  rw [rt_num hy, rt_den hy]
  exact ⟨_, _, _, rfl, rfl, l⟩
theorem abs_gcd (x y : Int) : (if x < 0 then -x else x).gcd (if y < 0 then -y else y) = x.gcd y := by
  split <;> split <;> simp [Int.gcd_neg, Int.neg_gcd]
theorem low_bound {a b x y : Int} (hy : 0 < y) (hy2 : y < 1152921504606846976) (ha : 0 ≤ a) (e : a.gcd b = (if x < 0 then -x else x).gcd (if y < 0 then -y else y)) (hb : b = 0) : 0 < a ∧ a < 1152921504606846976 := by
  have h := gcd_end ha hb e
  have h1 := gcd_pos_right (n := x) hy
  have h2 := gcd_le_right (n := x) hy
  omega
theorem low_turn {a b x y : Int} (hy : 0 < y) (hy2 : y < 1152921504606846976) (ha : 0 ≤ a) (hb : 0 ≤ b) (hb0 : b ≠ 0) (e : a.gcd b = (if x < 0 then -x else x).gcd (if y < 0 then -y else y)) :
    0 ≤ b ∧ 0 ≤ a.fmod b ∧ b.gcd (a.fmod b) = (if x < 0 then -x else x).gcd (if y < 0 then -y else y) ∧ (a.fmod b = 0 → 0 < b ∧ b < 1152921504606846976) := by
  obtain ⟨h1, h2, h3⟩ := gcd_turn ha hb hb0 e
  exact ⟨h1, h2, h3, fun h => low_bound hy hy2 h1 h3 h⟩
theorem low_start {x y : Int} (hy : 0 < y) (hy2 : y < 1152921504606846976) :
    0 ≤ (if x < 0 then -x else x) ∧ 0 ≤ (if y < 0 then -y else y) ∧ (if x < 0 then -x else x).gcd (if y < 0 then -y else y) = (if x < 0 then -x else x).gcd (if y < 0 then -y else y) ∧ ((if y < 0 then -y else y) = 0 → 0 < (if x < 0 then -x else x) ∧ (if x < 0 then -x else x) < 1152921504606846976) := by
  refine ⟨by split <;> omega, by split <;> omega, rfl, fun h => ?_⟩
  split at h <;> omega
theorem sub_refl {A : Led} : ∀ p ∈ A, p ∈ A := fun _ h => h
theorem sub_nil {A : Led} : ∀ p ∈ ([] : Led), p ∈ A := fun _ h => nomatch h
theorem sub_tail {A X : Led} {q : Addr × Obj} (h : ∀ p ∈ A, p ∈ X) : ∀ p ∈ A, p ∈ q :: X := fun p hp => List.mem_cons_of_mem _ (h p hp)
theorem sub_app {A B X : Led} (h : ∀ p ∈ A, p ∈ X) : ∀ p ∈ A, p ∈ B ++ X := fun p hp => List.mem_append.mpr (.inr (h p hp))
theorem sub_left {A B : Led} : ∀ p ∈ A, p ∈ A ++ B := fun p hp => List.mem_append.mpr (.inl hp)
theorem sub_cons {A X : Led} {q : Addr × Obj} (h1 : q ∈ X) (h : ∀ p ∈ A, p ∈ X) : ∀ p ∈ q :: A, p ∈ X := fun p hp => (List.mem_cons.mp hp).elim (fun e => e ▸ h1) (h p)
theorem sub_both {A B X : Led} (h1 : ∀ p ∈ A, p ∈ X) (h : ∀ p ∈ B, p ∈ X) : ∀ p ∈ A ++ B, p ∈ X := fun p hp => (List.mem_append.mp hp).elim (h1 p) (h p)
theorem mul_val (ρ σ : Rat) : ρ * σ = Rat.divInt (ρ.num * σ.num) ((ρ.den : Int) * (σ.den : Int)) := by
  have h := Rat.divInt_mul_divInt ρ.num σ.num (d₁ := ρ.den) (d₂ := σ.den)
  rwa [Rat.num_divInt_den, Rat.num_divInt_den] at h
theorem add_val (ρ σ : Rat) : ρ + σ = Rat.divInt (ρ.num * σ.den + σ.num * ρ.den) ((ρ.den : Int) * (σ.den : Int)) := by
  have h := Rat.divInt_add_divInt ρ.num σ.num (d₁ := ρ.den) (d₂ := σ.den) (by have := den_pos ρ; omega) (by have := den_pos σ; omega)
  rwa [Rat.num_divInt_den, Rat.num_divInt_den] at h
theorem divInt_one_num (n : Int) : (Rat.divInt n 1).num = n := by rw [Rat.num_divInt]; simp
theorem divInt_one_den (n : Int) : ((Rat.divInt n 1).den : Int) = 1 := by rw [Rat.den_divInt]; simp
theorem rtNew_one {news : Led} {n : Int} {ρ : Rat} {D : Addr} {t u : Tok} (e : ρ = Rat.divInt n 1) (l : ∀ p ∈ news, p.1 < D) : RtNew news ρ [(D, tupO [.int n t, .int 1 u])] (.ref D) := by
  subst e
  exact ⟨D, t, u, by rw [divInt_one_num, divInt_one_den], rfl, l⟩
theorem dens_pos (ρ σ : Rat) : 0 < (ρ.den : Int) * (σ.den : Int) := Int.mul_pos (den_pos ρ) (den_pos σ)
theorem mul_one_val {ρ σ : Rat} (h1 : (ρ.den : Int) = (σ.den : Int)) (h2 : (σ.den : Int) = 1) : ρ * σ = Rat.divInt (ρ.num * σ.num) 1 := by rw [mul_val, h1, h2]; rfl
theorem add_one_val {ρ σ : Rat} (h1 : (ρ.den : Int) = (σ.den : Int)) (h2 : (σ.den : Int) = 1) : ρ + σ = Rat.divInt (ρ.num + σ.num) 1 := by rw [add_val, h1, h2]; simp
theorem rtNew_re {news : Led} {ρ' ρ : Rat} {D : Addr} {t u : Tok} (e : ρ' = ρ) (l : ∀ p ∈ news, p.1 < D) : RtNew news ρ [(D, tupO [.int ρ'.num t, .int (ρ'.den : Int) u])] (.ref D) := by
  subst e
  exact ⟨D, t, u, rfl, rfl, l⟩
theorem neg_num' (ρ : Rat) : -ρ.num = (-ρ).num := (Rat.neg_num ρ).symm
theorem cmp_val (ρ σ : Rat) : (σ.num * (ρ.den : Int) < ρ.num * (σ.den : Int)) = (σ < ρ) := propext (Rat.lt_iff σ ρ).symm
theorem rtNew_neg {news : Led} {ρ : Rat} {D : Addr} {t u : Tok} (l : ∀ p ∈ news, p.1 < D) : RtNew news (-ρ) [(D, tupO [.int (-ρ.num) t, .int (ρ.den : Int) u])] (.ref D) := by
  refine ⟨D, t, u, ?_, rfl, l⟩
  rw [Rat.neg_num, Rat.neg_den]
theorem floor_val (ρ : Rat) : ρ.num.fdiv (ρ.den : Int) = ρ.floor := by rw [Rat.floor_def, Int.fdiv_eq_ediv_of_nonneg _ (Int.natCast_nonneg _)]
theorem cmp_end (ρ σ : Rat) : (b2i (decide (σ.num * (ρ.den : Int) < ρ.num * (σ.den : Int))) - b2i (decide (ρ.num * (σ.den : Int) < σ.num * (ρ.den : Int))) < 0 ↔ ρ < σ) ∧
    (b2i (decide (σ.num * (ρ.den : Int) < ρ.num * (σ.den : Int))) - b2i (decide (ρ.num * (σ.den : Int) < σ.num * (ρ.den : Int))) = 0 ↔ ρ = σ) := by
  rw [Rat.lt_iff]
  have e : ρ = σ ↔ ρ.num * (σ.den : Int) = σ.num * (ρ.den : Int) := by
    constructor
    · rintro rfl; rfl
    · intro h
      have h1 := (Rat.le_iff ρ σ).mpr (by omega)
      have h2 := (Rat.le_iff σ ρ).mpr (by omega)
      exact Rat.le_antisymm h1 h2
  rw [e]
  unfold b2i
  generalize ρ.num * (σ.den : Int) = x
  generalize σ.num * (ρ.den : Int) = y
  by_cases h1 : y < x <;> by_cases h2 : x < y <;> simp [h1, h2] <;> omega
theorem mul1_val (ρ : Rat) : Rat.divInt (ρ.num * 1) ((ρ.den : Int) * 1) = ρ * 1 := by rw [Int.mul_one, Int.mul_one, Rat.num_divInt_den, Rat.mul_one]
theorem mulm_val (ρ : Rat) : Rat.divInt (ρ.num * -1) ((ρ.den : Int) * 1) = ρ * (-1) := by
  have h := mul_val ρ (-1)
  rw [h]
  rfl
theorem mul1_one {ρ : Rat} (h : (ρ.den : Int) = 1) : ρ * 1 = Rat.divInt (ρ.num * 1) 1 := by rw [← mul1_val, h]; rfl
theorem mulm_one {ρ : Rat} (h : (ρ.den : Int) = 1) : ρ * (-1) = Rat.divInt (ρ.num * -1) 1 := by rw [← mulm_val, h]; rfl
end Nz

set_option maxRecDepth 100000
set_option linter.unusedVariables false
namespace Nz
section
variable {prog : Program} {w : World} {A : Around} {E : Value → Shared → Prop} {s : Shared} {env : Env} {h₀ : Heap} {m₀ : Str → Option Value} {target : Expr} {body : List Stmt} {Q : Flow → Shared → Prop} {news : Led}
/-- a turn of a loop over a source that hands P -/
def ForTurn (prog : Program) (w : World) (A : Around) (h₀ : Heap) (env : Env) (m₀ : Str → Option Value) (target : Expr) (body : List Stmt) (Q : Flow → Shared → Prop) (E : Value → Shared → Prop) (s : Shared) {σ : Type} (n : Nat) (P : Nat → Value → Heap → Prop) (Ld : σ → Led) (ps : σ → List (Str × Value)) (stored : List Str) (R : Nat → σ → Prop) : Prop :=
  ∀ i v (c : σ) (u : Str → Option Value) h tk own wr, i < n → P i v h → R i c → (∀ p ∈ Ld c, p.1 ∉ wr) → (∀ b ∈ wr, ∃ o, (b, o) ∈ own) →
      Fr h₀ env.locals h (kstB (fun z => if stored.contains z then u z else m₀ z) (ps c)) → News h₀ env.locals h (own ++ Ld c) →
      wpAny (model prog w) A (assign target env v) (fun _ s₃ => wpAny (model prog w) A (execs body env) (NzPost h₀ env.locals wr own { s with heap := h, toks := tk } Ld ps stored m₀ (R (i + 1)) Q) E s₃) E { s with heap := h, toks := tk }
def ForDone (h₀ : Heap) (env : Env) (m₀ : Str → Option Value) (Q : Flow → Shared → Prop) (s : Shared) {σ : Type} (n : Nat) (Ld : σ → Led) (ps : σ → List (Str × Value)) (stored : List Str) (R : Nat → σ → Prop) : Prop :=
  ∀ (c : σ) (u : Str → Option Value) h tk, R n c → Fr h₀ env.locals h (kstB (fun z => if stored.contains z then u z else m₀ z) (ps c)) → News h₀ env.locals h (Ld c) → Q .next { s with heap := h, toks := tk }
theorem for_tup {σ : Type} {ax : Addr} {vs : List Value} {k : Nat} (F : Fr h₀ env.locals s.heap m₀) (N : News h₀ env.locals s.heap news) (hm : (ax, ({ cls := .type "tuple", data := .seq vs.toArray k } : Obj)) ∈ news)
    (Ld : σ → Led) (ps : σ → List (Str × Value)) (stored : List Str) (R : Nat → σ → Prop) (c₀ : σ) (hn : ∀ p ∈ Ld c₀, p ∈ news) (hk : ∀ p ∈ ps c₀, m₀ p.1 = some p.2) (hR : R 0 c₀)
    (turn : ForTurn prog w A h₀ env m₀ target body Q E s vs.length (fun i v _ => vs[i]? = some v) Ld ps stored R) (done : ForDone h₀ env m₀ Q s vs.length Ld ps stored R) (hh : A.handled = none := by rfl) :
    wpAny (model prog w) A (pyIter (.ref ax)) (fun it s₂ => TurnsAt prog w A h₀ env target body Q E it s₂) E s :=
  src_tup hh F N hm fun I h' S => nz_for S Ld ps stored R c₀ hn hk hR turn done
theorem for_list {σ : Type} {ax : Addr} {vs : List Value} {k : Nat} (F : Fr h₀ env.locals s.heap m₀) (N : News h₀ env.locals s.heap news) (hm : (ax, listOf vs.toArray k) ∈ news)
    (Ld : σ → Led) (ps : σ → List (Str × Value)) (stored : List Str) (R : Nat → σ → Prop) (c₀ : σ) (hn : ∀ p ∈ Ld c₀, p ∈ news) (hk : ∀ p ∈ ps c₀, m₀ p.1 = some p.2) (hR : R 0 c₀)
    (turn : ForTurn prog w A h₀ env m₀ target body Q E s vs.length (fun i v _ => vs[i]? = some v) Ld ps stored R) (done : ForDone h₀ env m₀ Q s vs.length Ld ps stored R) (hh : A.handled = none := by rfl) :
    wpAny (model prog w) A (pyIter (.ref ax)) (fun it s₂ => TurnsAt prog w A h₀ env target body Q E it s₂) E s :=
  src_list hh F N hm fun I h' S => nz_for S Ld ps stored R c₀ hn hk hR turn done
theorem for_zipTL {σ : Type} {elts : List Expr} {kk : Nat} {pos : Pos} {l1 l2 : Addr} {vs1 vs2 : List Value} {k1 k2 : Nat} (F : Fr h₀ env.locals s.heap m₀) (N : News h₀ env.locals s.heap news)
    (hm1 : (l1, ({ cls := .type "tuple", data := .seq vs1.toArray k1 } : Obj)) ∈ news) (hm2 : (l2, listOf vs2.toArray k2) ∈ news)
    (Ld : σ → Led) (ps : σ → List (Str × Value)) (stored : List Str) (R : Nat → σ → Prop) (c₀ : σ) (hn : ∀ p ∈ Ld c₀, p ∈ news) (hk : ∀ p ∈ ps c₀, m₀ p.1 = some p.2) (hR : R 0 c₀)
    (turn : ForTurn prog w A h₀ env m₀ (.Tuple elts kk pos) body Q E s (min vs1.length vs2.length) (fun i v h => ∃ T x y, v = .ref T ∧ vs1[i]? = some x ∧ vs2[i]? = some y ∧ IsTup h T #[x, y]) Ld ps stored R) (done : ForDone h₀ env m₀ Q s (min vs1.length vs2.length) Ld ps stored R) (hh : A.handled = none := by rfl) :
    wpAny (model prog w) A (call (.type "zip") [.ref l1, .ref l2]) (fun xv s₁ => wpAny (model prog w) A (pyIter xv) (fun it s₂ => TurnsAt prog w A h₀ env (.Tuple elts kk pos) body Q E it s₂) E s₁) E s :=
  src_zipTL hh F N hm1 hm2 fun I h' S => nz_for S Ld ps stored R c₀ hn hk hR turn done
theorem post_next {σ : Type} {h₀ : Heap} {L : Addr} {wr : List Addr} {own : Led} {s₁ : Shared} {Ld : σ → Led} {ps : σ → List (Str × Value)} {stored : List Str} {m₀ : Str → Option Value} {R : σ → Prop} {Q : Flow → Shared → Prop} {s₂ : Shared}
    (h : NzEnd h₀ L wr own s₁ Ld ps stored m₀ R s₂) : NzPost h₀ L wr own s₁ Ld ps stored m₀ R Q .next s₂ := h
theorem fr_at {h₀ h : Heap} {L : Addr} {m : Str → Option Value} (F : Fr h₀ L h m) (x : Str) {v : Value} (e : m x = some v) : m x = some v := e
theorem take_snoc {α : Type} {l : List α} {i : Nat} {x : α} (h : l[i]? = some x) : l.take (i + 1) = l.take i ++ [x] := by rw [List.take_add_one, h]; rfl
theorem mem_at {α : Type} {l : List α} {i : Nat} {x : α} (h : l[i]? = some x) : x ∈ l := List.mem_of_getElem? h
end
section
variable {prog : Program} {w : World} {A : Around} {E : Value → Shared → Prop} {s : Shared} {env : Env} {h₀ : Heap} {L : Addr} {m : Str → Option Value} {target elt : Expr} {ifs : List Expr} {scope : Scope} {cl : List (Str × Addr)} {news : Led} {fin : Value → Shared → Led → List Value → Prop}
theorem comp_tup {ax : Addr} {vs : List Value} {k : Nat} {base : Led} {Bd : Nat → Value → (Str → Option Value) → Prop} (F : Fr h₀ L s.heap m) (N : News h₀ L s.heap news) (hm : (ax, ({ cls := .type "tuple", data := .seq vs.toArray k } : Obj)) ∈ news) (hsz : vs.length ≤ sizeLine)
    (hb : Binds prog w A h₀ L base scope cl env target (fun i v _ => vs[i]? = some v) Bd) (K : Nat → List Value → Led → Prop) (hK : K 0 [] news) (hbase : ∀ p ∈ base, p ∈ news)
    (turn : NzCTurn prog w A h₀ L m env elt ifs scope cl vs.length Bd (fun i ys nx => (∀ p ∈ news, p ∈ nx) ∧ K i ys nx) s)
    (done : ∀ D h tk ys nx, News h₀ L h ((D, lst ys) :: nx) → (∀ p ∈ nx, p.1 ≠ D) → (∀ p ∈ news, p ∈ nx) → K vs.length ys nx → fin (.ref D) { s with heap := h, toks := tk } nx ys) (hh : A.handled = none := by rfl) :
    wpAny (model prog w) A (pyIter (.ref ax)) (fun it s₂ => NzCSrc prog w A h₀ L m env target elt ifs scope cl fin it s₂) E s :=
  src_tup hh F N hm fun I h' S => ⟨_, _, _, Bd, _, base, S, hsz, hb, ⟨fun _ h => h, hK⟩, fun _ _ _ h p hp => h.1 p (hbase p hp), turn, fun D h tk ys nx N hne hJ => done D h tk ys nx N hne hJ.1 hJ.2⟩
theorem comp_list {ax : Addr} {vs : List Value} {k : Nat} {base : Led} {Bd : Nat → Value → (Str → Option Value) → Prop} (F : Fr h₀ L s.heap m) (N : News h₀ L s.heap news) (hm : (ax, listOf vs.toArray k) ∈ news) (hsz : vs.length ≤ sizeLine)
    (hb : Binds prog w A h₀ L base scope cl env target (fun i v _ => vs[i]? = some v) Bd) (K : Nat → List Value → Led → Prop) (hK : K 0 [] news) (hbase : ∀ p ∈ base, p ∈ news)
    (turn : NzCTurn prog w A h₀ L m env elt ifs scope cl vs.length Bd (fun i ys nx => (∀ p ∈ news, p ∈ nx) ∧ K i ys nx) s)
    (done : ∀ D h tk ys nx, News h₀ L h ((D, lst ys) :: nx) → (∀ p ∈ nx, p.1 ≠ D) → (∀ p ∈ news, p ∈ nx) → K vs.length ys nx → fin (.ref D) { s with heap := h, toks := tk } nx ys) (hh : A.handled = none := by rfl) :
    wpAny (model prog w) A (pyIter (.ref ax)) (fun it s₂ => NzCSrc prog w A h₀ L m env target elt ifs scope cl fin it s₂) E s :=
  src_list hh F N hm fun I h' S => ⟨_, _, _, Bd, _, base, S, hsz, hb, ⟨fun _ h => h, hK⟩, fun _ _ _ h p hp => h.1 p (hbase p hp), turn, fun D h tk ys nx N hne hJ => done D h tk ys nx N hne hJ.1 hJ.2⟩
theorem comp_zipTT {elts : List Expr} {kk : Nat} {pos : Pos} {l1 l2 : Addr} {vs1 vs2 : List Value} {k1 k2 : Nat} {base : Led} {Bd : Nat → Value → (Str → Option Value) → Prop} (F : Fr h₀ L s.heap m) (N : News h₀ L s.heap news)
    (hm1 : (l1, ({ cls := .type "tuple", data := .seq vs1.toArray k1 } : Obj)) ∈ news) (hm2 : (l2, ({ cls := .type "tuple", data := .seq vs2.toArray k2 } : Obj)) ∈ news) (hsz : min vs1.length vs2.length ≤ sizeLine)
    (hb : Binds prog w A h₀ L base scope cl env (.Tuple elts kk pos) (fun i v h => ∃ T x y, v = .ref T ∧ vs1[i]? = some x ∧ vs2[i]? = some y ∧ IsTup h T #[x, y]) Bd) (K : Nat → List Value → Led → Prop) (hK : K 0 [] news) (hbase : ∀ p ∈ base, p ∈ news)
    (turn : NzCTurn prog w A h₀ L m env elt ifs scope cl (min vs1.length vs2.length) Bd (fun i ys nx => (∀ p ∈ news, p ∈ nx) ∧ K i ys nx) s)
    (done : ∀ D h tk ys nx, News h₀ L h ((D, lst ys) :: nx) → (∀ p ∈ nx, p.1 ≠ D) → (∀ p ∈ news, p ∈ nx) → K (min vs1.length vs2.length) ys nx → fin (.ref D) { s with heap := h, toks := tk } nx ys) (hh : A.handled = none := by rfl) :
    wpAny (model prog w) A (call (.type "zip") [.ref l1, .ref l2]) (fun xv s₁ => wpAny (model prog w) A (pyIter xv) (fun it s₂ => NzCSrc prog w A h₀ L m env (.Tuple elts kk pos) elt ifs scope cl fin it s₂) E s₁) E s :=
  src_zipTT hh F N hm1 hm2 fun I h' S => ⟨_, _, _, Bd, _, base, S, hsz, hb, ⟨fun _ h => h, hK⟩, fun _ _ _ h p hp => h.1 p (hbase p hp), turn, fun D h tk ys nx N hne hJ => done D h tk ys nx N hne hJ.1 hJ.2⟩
theorem off_cons {wr : List Addr} {own all : Led} {C D : Addr} {oC oD : Obj} {nx : Led} {q : Addr × Obj} (hwo : ∀ b ∈ wr, ∃ o, (b, o) ∈ own) (hl : ∀ p ∈ all, p.1 < q.1) (ho : ∀ p ∈ own, p ∈ all) (hC : (C, oC) ∈ all) (hD : (D, oD) ∈ all) (h : NzOff wr C D nx) : NzOff wr C D (q :: nx) := by
  intro p hp
  rcases List.mem_cons.mp hp with rfl | hp
  · refine ⟨fun hw => ?_, fun e => ?_, fun e => ?_⟩
    · obtain ⟨o, hm⟩ := hwo _ hw
      exact Nat.lt_irrefl p.1 (hl (p.1, o) (ho (p.1, o) hm))
    · have := hl _ hC
      rw [← e] at this
      exact Nat.lt_irrefl _ this
    · have := hl _ hD
      rw [← e] at this
      exact Nat.lt_irrefl _ this
  · exact h p hp
theorem tests_nil {env : Env} {Q : Bool → Shared → Prop} {T F : Shared → Prop} (h : T s) (hQ : Q = fun ok s₃ => if ok = true then T s₃ else F s₃ := by rfl) :
    wpAny (model prog w) A (forIn ([] : List Expr) true fun c r => if r = true then do let ok ← isTrue c env (eval c env); pure (ForInStep.yield ok) else pure (ForInStep.yield r)) Q E s := by
  subst hQ
  exact wpAny_tests_nil (by rw [if_pos rfl]; exact h)
/-- the pairs of a tuple of terms -/
theorem pairs_terms {vs : List Value} {ts : List (Int × Rat)} {h : Heap} (hts : All2 (TermIn news) vs ts) {i : Nat} {v : Value} (hv : vs[i]? = some v) (N : News h₀ L h news) :
    ∃ T a b, v = .ref T ∧ IsTup h T #[a, b] ∧ ∃ k t r ρ u u', ts[i]? = some (k, ρ) ∧ a = .int k t ∧ b = .ref r ∧ (r, tupO [.int ρ.num u, .int (ρ.den : Int) u']) ∈ news := by
  obtain ⟨x, hx, hT⟩ := hts.get hv
  cases hT with | mk hm1 hm2 =>
  cases hm2 with | mk hm2 =>
  exact ⟨_, _, _, rfl, ⟨_, (N _ hm1).1, rfl, _, rfl⟩, _, _, _, _, _, _, hx, rfl, rfl, hm2⟩
theorem nz_cend0 {h₀ : Heap} {L : Addr} {m : Str → Option Value} {s₁ : Shared} {wr : List Addr} {own : Led} {C : Addr} {oC : Obj} {D : Addr} {oD : Obj} {rest : Led → Prop} {h' : Heap} {tk : Nat} {nx all : Led}
    (F : Fr h₀ L h' m) (N : News h₀ L h' all) (hs : ∀ p ∈ own ++ (C, oC) :: (D, oD) :: nx, p ∈ all) (off : NzOff wr C D nx) (r : rest nx) : NzCEnd h₀ L m s₁ wr own C oC D oD rest { s₁ with heap := h', toks := tk } :=
  nz_cend nx F N (fun p hp => hs p (List.mem_append_left _ hp)) (hs _ (List.mem_append_right _ List.mem_cons_self)) (hs _ (List.mem_append_right _ (List.mem_cons_of_mem _ List.mem_cons_self))) (fun p hp => hs p (List.mem_append_right _ (List.mem_cons_of_mem _ (List.mem_cons_of_mem _ hp)))) off r
theorem nz_cend1 {h₀ : Heap} {L : Addr} {m : Str → Option Value} {s₁ : Shared} {wr : List Addr} {own : Led} {C : Addr} {oC : Obj} {D : Addr} {oD : Obj} {rest : Led → Prop} {h' : Heap} {tk : Nat} {nx : Led} {q1 : Addr × Obj}
    (F : Fr h₀ L h' m) (N : News h₀ L h' (q1 :: (own ++ (C, oC) :: (D, oD) :: nx))) (l1 : ∀ p ∈ own ++ (C, oC) :: (D, oD) :: nx, p.1 < q1.1) (hwo : ∀ b ∈ wr, ∃ o, (b, o) ∈ own) (off : NzOff wr C D nx) (r : rest (q1 :: nx)) : NzCEnd h₀ L m s₁ wr own C oC D oD rest { s₁ with heap := h', toks := tk } := by
  have hC : (C, oC) ∈ own ++ (C, oC) :: (D, oD) :: nx := List.mem_append_right _ List.mem_cons_self
  have hD : (D, oD) ∈ own ++ (C, oC) :: (D, oD) :: nx := List.mem_append_right _ (List.mem_cons_of_mem _ List.mem_cons_self)
  refine nz_cend (q1 :: nx) F N (fun p hp => List.mem_cons_of_mem _ (List.mem_append_left _ hp)) (List.mem_cons_of_mem _ hC) (List.mem_cons_of_mem _ hD) (fun p hp => ?_) (off_cons hwo l1 (fun p hp => List.mem_append_left _ hp) hC hD off) r
  rcases List.mem_cons.mp hp with rfl | hp
  · exact List.mem_cons_self
  · exact List.mem_cons_of_mem _ (List.mem_append_right _ (List.mem_cons_of_mem _ (List.mem_cons_of_mem _ hp)))
theorem nz_cend2 {h₀ : Heap} {L : Addr} {m : Str → Option Value} {s₁ : Shared} {wr : List Addr} {own : Led} {C : Addr} {oC : Obj} {D : Addr} {oD : Obj} {rest : Led → Prop} {h' : Heap} {tk : Nat} {nx : Led} {q1 q2 : Addr × Obj}
    (F : Fr h₀ L h' m) (N : News h₀ L h' (q1 :: q2 :: (own ++ (C, oC) :: (D, oD) :: nx))) (l1 : q2.1 < q1.1 ∧ AllLt q1.1 (own ++ (C, oC) :: (D, oD) :: nx)) (l2 : ∀ p ∈ own ++ (C, oC) :: (D, oD) :: nx, p.1 < q2.1) (hwo : ∀ b ∈ wr, ∃ o, (b, o) ∈ own) (off : NzOff wr C D nx) (r : rest (q1 :: q2 :: nx)) : NzCEnd h₀ L m s₁ wr own C oC D oD rest { s₁ with heap := h', toks := tk } := by
  have hC : (C, oC) ∈ own ++ (C, oC) :: (D, oD) :: nx := List.mem_append_right _ List.mem_cons_self
  have hD : (D, oD) ∈ own ++ (C, oC) :: (D, oD) :: nx := List.mem_append_right _ (List.mem_cons_of_mem _ List.mem_cons_self)
  refine nz_cend (q1 :: q2 :: nx) F N (fun p hp => List.mem_cons_of_mem _ (List.mem_cons_of_mem _ (List.mem_append_left _ hp))) (List.mem_cons_of_mem _ (List.mem_cons_of_mem _ hC)) (List.mem_cons_of_mem _ (List.mem_cons_of_mem _ hD)) (fun p hp => ?_)
    (off_cons hwo (ktn_ltOf (l := q2 :: (own ++ (C, oC) :: (D, oD) :: nx)) l1) (fun p hp => List.mem_cons_of_mem _ (List.mem_append_left _ hp)) (List.mem_cons_of_mem _ hC) (List.mem_cons_of_mem _ hD) (off_cons hwo l2 (fun p hp => List.mem_append_left _ hp) hC hD off)) r
  rcases List.mem_cons.mp hp with rfl | hp
  · exact List.mem_cons_self
  rcases List.mem_cons.mp hp with rfl | hp
  · exact List.mem_cons_of_mem _ List.mem_cons_self
  · exact List.mem_cons_of_mem _ (List.mem_cons_of_mem _ (List.mem_append_right _ (List.mem_cons_of_mem _ (List.mem_cons_of_mem _ hp))))
theorem nz_tupleOf {l : Addr} {vs : List Value} {k : Nat} {Q : Value → Shared → Prop} (F : Fr h₀ L s.heap m) (N : News h₀ L s.heap news) (hm : (l, ({ cls := .type "list", data := .seq vs.toArray k } : Obj)) ∈ news) (hz : vs.length ≤ 1000)
    (h : ∀ D h', Fr h₀ L h' m → News h₀ L h' ((D, tupO vs) :: news) → (∀ p ∈ news, p.1 < D) → Q (.ref D) { s with heap := h' }) : wpAny (model prog w) A (call (.type "tuple") [.ref l]) Q E s :=
  kde_tupleOf F N (N.isList hm) (by rw [List.size_toArray]; omega) (by simp) h
theorem nz_lenT {l : Addr} {vs : List Value} {Q : Value → Shared → Prop} (N : News h₀ L s.heap news) (hm : (l, tupO vs) ∈ news) (hz : vs.length ≤ 1000)
    (h : Q (.int (vs.length : Int) (s.toks + 1)) { s with toks := s.toks + 1 + 1 }) : wpAny (model prog w) A (call (.builtin "len") [.ref l]) Q E s :=
  len_tuple (N.isTup hm) (by rw [List.size_toArray]; omega) (by rw [List.size_toArray]; exact h)
theorem nz_itemT {value slice : Expr} {t : Addr} {l : List Value} {k : Int} {u : Tok} {x : Value} {Q : Value → Shared → Prop} (N : News h₀ L s.heap news) (hm : (t, tupO l) ∈ news) (h0 : 0 ≤ k) (hhi : k < 2 ^ 63) (hx : l[k.toNat]? = some x) (h : Q x s)
    (hs : subscripted slice false (.ref t) (.int k u) = operate [.ref t, .int k u] (getItem (.ref t) (.int k u)) := by with_unfolding_all rfl) :
    wpAny (model prog w) A (subscriptTail value slice (.ref t) (.int k u)) Q E s := by
  have h1 := (List.getElem?_eq_some_iff.mp hx).1
  exact item_tupleT (N.isTup hm) (by omega) hhi (seqIndex_of h0 (by omega)) hx h hs
end
end Nz

set_option maxRecDepth 100000
set_option linter.unusedVariables false
namespace Nz
section
variable {prog : Program} {w : World} {A : Around} {E : Value → Shared → Prop} {s : Shared} {env : Env} {h₀ : Heap} {L : Addr} {m m₀ : Str → Option Value} {target : Expr} {body : List Stmt} {Q : Flow → Shared → Prop}
  {n : Nat} {P : Nat → Value → Heap → Prop} {news srcs : Led} {it : Value}
/-- an iteration that stands ready; all but its sources are its own -/
inductive SrcAny2 (prog : Program) (w : World) (A : Around) (h₀ : Heap) (L : Addr) (m : Str → Option Value) (target : Expr) (n : Nat) (P : Nat → Value → Heap → Prop) (news srcs : Led) (it : Value) (s : Shared) : Prop
  | mk (I : Addr) (fp wr : List Addr) (Md : Nat → Value → Heap → Prop) (St : Nat → Heap → Prop) (e : it = .ref I) (W : KTurns prog w A target I fp wr n P Md St)
    (hL : L ∉ fp) (hwr : ∀ b ∈ wr, h₀.get? b = none) (hnw : ∀ p ∈ news, p.1 ∉ wr) (hst : St 0 s.heap) (hfp : ∀ b ∈ fp, b ∈ wr ∨ ∃ o, (b, o) ∈ srcs) (hob : ∀ i h, St i h → ∀ b ∈ wr, ∃ o, h.get? b = some o) (F : Fr h₀ L s.heap m) (N : News h₀ L s.heap news) : SrcAny2 prog w A h₀ L m target n P news srcs it s
/-- a turn: the ledger's head is the iteration's own -/
def ForTurn2 (prog : Program) (w : World) (A : Around) (h₀ : Heap) (env : Env) (m₀ : Str → Option Value) (target : Expr) (body : List Stmt) (Q : Flow → Shared → Prop) (E : Value → Shared → Prop) (s : Shared) {σ : Type} (n : Nat) (P : Nat → Value → Heap → Prop) (Ld : σ → Led) (ps : σ → List (Str × Value)) (stored : List Str) (R : Nat → σ → Prop) : Prop :=
  ∀ i v (c : σ) (u : Str → Option Value) h tk own wr, i < n → P i v h → R i c → (∀ p ∈ Ld c, p.1 ∉ wr) → (∀ p ∈ own, p.1 ∈ wr) → (∀ b ∈ wr, ∃ o, (b, o) ∈ own) →
      Fr h₀ env.locals h (kstB (fun z => if stored.contains z then u z else m₀ z) (ps c)) → News h₀ env.locals h (own ++ Ld c) →
      wpAny (model prog w) A (assign target env v) (fun _ s₃ => wpAny (model prog w) A (execs body env) (NzPost h₀ env.locals wr own { s with heap := h, toks := tk } Ld ps stored m₀ (R (i + 1)) Q) E s₃) E { s with heap := h, toks := tk }
theorem nz_for2 {σ : Type} (S : SrcAny2 prog w A h₀ env.locals m₀ target n P news srcs it s)
    (Ld : σ → Led) (ps : σ → List (Str × Value)) (stored : List Str) (R : Nat → σ → Prop) (c₀ : σ) (hsrc : ∀ c, ∀ p ∈ srcs, p ∈ Ld c) (hn : ∀ p ∈ Ld c₀, p ∈ news) (hk : ∀ p ∈ ps c₀, m₀ p.1 = some p.2) (hR : R 0 c₀)
    (turn : ForTurn2 prog w A h₀ env m₀ target body Q E s n P Ld ps stored R) (done : ForDone h₀ env m₀ Q s n Ld ps stored R) :
    TurnsAt prog w A h₀ env target body Q E it s := by
  obtain ⟨I, fp, wr, Md, St, rfl, W, hL, hwr, hnw, hst, hfp, hob, F, N⟩ := S
  refine ⟨I, fp, wr, n, P, Md, St, m₀, Ld c₀, fun i m' nx => NzInv wr Ld ps stored m₀ (R i) m' nx, rfl, W, hL, hwr, fun p hp => hnw p (hn p hp), hst, F, fun p hp => N p (hn p hp), ⟨c₀, rfl, fun p hp => hnw p (hn p hp), hk, fun _ _ _ => rfl, hR⟩, ?_, ?_⟩
  · rintro i v m₁ news₁ h₁ tk₁ own hin hP ⟨c, rfl, hw, h1, h2, hRc⟩ hoff hown hget hall hst₁ F₁ N₁
    have hwo : ∀ b ∈ wr, ∃ o, (b, o) ∈ own.filter (fun p => decide (p.1 ∈ wr)) := fun b hb => by
      obtain ⟨o, ho⟩ := hob _ _ hst₁ b hb
      exact ⟨o, List.mem_filter.mpr ⟨hall b (W.sub b hb) (hwr b hb) o ho, decide_eq_true hb⟩⟩
    have N₂ : News h₀ env.locals h₁ (own.filter (fun p => decide (p.1 ∈ wr)) ++ Ld c) := fun p hp => by
      rcases List.mem_append.mp hp with hp | hp
      · exact N₁ p (List.mem_append_left _ (List.mem_filter.mp hp).1)
      · exact N₁ p (List.mem_append_right _ hp)
    refine wpAny_mono (turn i v c m₁ h₁ tk₁ _ wr hin hP hRc hw (fun p hp => of_decide_eq_true (List.mem_filter.mp hp).2) hwo (ksw_fr h1 h2 F₁) N₂) (fun _ s₂ p => wpAny_mono p (fun f s₃ q => ?_) fun _ _ e => e) fun _ _ e => e
    have fin : NzEnd h₀ env.locals wr (own.filter (fun p => decide (p.1 ∈ wr))) { s with heap := h₁, toks := tk₁ } Ld ps stored m₀ (R (i + 1)) s₃ →
        LoopStepU h₀ env.locals wr own (NzInv wr Ld ps stored m₀ (R (i + 1))) { s with heap := h₁, toks := tk₁ } .next s₃ := by
      rintro ⟨c', h', tk', m', news', rfl, F', N', ho, hn', hw', hk', hr', hR'⟩
      refine ⟨rfl, h', tk', m', Ld c', rfl, F', fun p hp => ?_, hw', c', rfl, hw', hk', hr', hR'⟩
      rcases List.mem_append.mp hp with hp | hp
      · by_cases hpw : p.1 ∈ wr
        · exact N' p (ho p (List.mem_filter.mpr ⟨hp, decide_eq_true hpw⟩))
        · obtain ⟨o, hos⟩ := (hfp p.1 (hown p hp)).resolve_left hpw
          have e1 := hget p hp
          have e2 := (N₂ (p.1, o) (List.mem_append_right _ (hsrc c _ hos))).1
          have e3 : o = p.2 := Option.some.inj (e2.symm.trans e1)
          have := N' (p.1, o) (hn' _ (hsrc c' _ hos))
          rw [e3] at this
          exact this
      · exact N' p (hn' p hp)
    cases f with
    | ret v => exact q
    | brk => exact q
    | next => exact fin q
    | cont => exact fin q
  · rintro h' tk m' news' F' N' _ ⟨c, rfl, _, h1, h2, hRc⟩
    exact done c m' h' tk hRc (ksw_fr h1 h2 F') N'
theorem letGo_name {x : Str} {px : Pos} {iv v : Value} {Q : Unit → Shared → Prop} (q : Q () s) : wpAny (model prog w) A (letOwnedTupleGo (.Name x px) iv v) Q E s := wpAny_pure q
/-- a thing of the ledger, iterated by one object; the ledger's entry is its source -/
theorem src_walk2 {ax : Addr} {oa oi : Obj} {vs : List Value} {B : Heap → Prop} {S : Nat → Heap → Prop} (fr : oi.isFreed = false) (F : Fr h₀ L s.heap m) (N : News h₀ L s.heap news) (hm : (ax, oa) ∈ news)
    (W : Walks prog w A s.heap.objs.size [s.heap.objs.size, ax] [s.heap.objs.size] vs.toArray.size (fun i v => vs.toArray[i]? = some v) (fun i h => S i h ∧ B h)) (st : S 0 (s.heap.push oi) ∧ B (s.heap.push oi))
    (go : ∀ i v (s₁ : Shared) (Q : Unit → Shared → Prop) (E : Value → Shared → Prop), S i s₁.heap ∧ B s₁.heap → Q () s₁ → wpAny (model prog w) A (letOwnedTupleGo target (.ref s.heap.objs.size) v) Q E s₁)
    (ob : ∀ i h, S i h → ∃ o, h.get? s.heap.objs.size = some o) :
    SrcAny2 prog w A h₀ L m target vs.length (fun i v _ => vs[i]? = some v) news [(ax, oa)] (.ref s.heap.objs.size) { s with heap := s.heap.push oi } := by
  have K := KTurns.ofWalks (target := target) W go
  simp only [List.size_toArray, List.getElem?_toArray] at K
  have one : ∀ {b}, b ∈ [s.heap.objs.size] → b = s.heap.objs.size := List.mem_singleton.mp
  refine ⟨_, _, _, _, _, rfl, K, ?_, fun b hb => one hb ▸ next_is_new F, fun p hp hb => Nat.ne_of_lt (Heap.lt_size (N p hp).1) (one hb), st, ?_, fun i h q b hb => one hb ▸ ob i h q.1, F.push _, N.grown fun c o e => Heap.get?_push_of_some _ e⟩
  · simp only [List.mem_cons, List.not_mem_nil, or_false, not_or]
    exact ⟨Nat.ne_of_lt F.ns.lt, Ne.symm (N _ hm).2.1⟩
  · simp only [List.forall_mem_cons]
    exact ⟨.inl (.head _), .inr ⟨oa, .head _⟩, fun _ q => nomatch q⟩
/-- a list of the ledger is iterated -/
theorem for_list2 {σ : Type} {ax : Addr} {vs : List Value} {k : Nat} (F : Fr h₀ env.locals s.heap m₀) (N : News h₀ env.locals s.heap news) (hm : (ax, listOf vs.toArray k) ∈ news)
    (Ld : σ → Led) (ps : σ → List (Str × Value)) (stored : List Str) (R : Nat → σ → Prop) (c₀ : σ) (hsrc : ∀ c, (ax, listOf vs.toArray k) ∈ Ld c) (hn : ∀ p ∈ Ld c₀, p ∈ news) (hk : ∀ p ∈ ps c₀, m₀ p.1 = some p.2) (hR : R 0 c₀)
    (turn : ForTurn2 prog w A h₀ env m₀ target body Q E s vs.length (fun i v _ => vs[i]? = some v) Ld ps stored R) (done : ForDone h₀ env m₀ Q s vs.length Ld ps stored R) (hh : A.handled = none := by rfl) :
    wpAny (model prog w) A (pyIter (.ref ax)) (fun it s₂ => TurnsAt prog w A h₀ env target body Q E it s₂) E s :=
  have hl : s.heap.IsList ax vs.toArray := ⟨_, (N _ hm).1, rfl, k, rfl⟩
  wpAny_pyIter_list hl (nz_for2 (s := { s with heap := _ }) (src_walk2 rfl F N hm (Walks.list hh _ ax (Nat.ne_of_lt (Heap.lt_size (N _ hm).1)) vs.toArray) ⟨⟨_, Heap.get?_push_size _ rfl, rfl, rfl⟩, hl.at fun o e => Heap.get?_push_of_some _ e⟩
    (fun i v s Q E st q => letGo_listiter st.1 q) fun i h st => let ⟨o, e, _⟩ := st; ⟨o, e⟩) Ld ps stored R c₀ (fun c p hp => by rw [List.mem_singleton.mp hp]; exact hsrc c) hn hk hR turn done)
/-- a range is walked, its ints bound to a name -/
theorem for_range2 {σ : Type} {x : Str} {px : Pos} {r : Addr} {a₀ b₀ c : Int} {t₀ u₀ v₀ : Tok} (hr : IsRange s.heap r a₀ b₀ c t₀ u₀ v₀) (hsmall : Builtin.Range.small a₀ b₀ c = true) (hn' : Builtin.Range.rangeSize a₀ b₀ c = (n : Int))
    (F : Fr h₀ env.locals s.heap m₀) (N : News h₀ env.locals s.heap news)
    (Ld : σ → Led) (ps : σ → List (Str × Value)) (stored : List Str) (R : Nat → σ → Prop) (c₀ : σ) (hn : ∀ p ∈ Ld c₀, p ∈ news) (hk : ∀ p ∈ ps c₀, m₀ p.1 = some p.2) (hR : R 0 c₀)
    (turn : ForTurn2 prog w A h₀ env m₀ (.Name x px) body Q E s n (fun i v _ => ∃ t, v = .int (a₀ + (i : Int) * c) t) Ld ps stored R) (done : ForDone h₀ env m₀ Q s n Ld ps stored R) (hh : A.handled = none := by rfl) :
    wpAny (model prog w) A (pyIter (.ref r)) (fun it s₂ => TurnsAt prog w A h₀ env (.Name x px) body Q E it s₂) E s := by
  refine wpAny_pyIter_range hr hsmall (nz_for2 (n := n) (P := fun i v _ => ∃ t, v = .int (a₀ + (i : Int) * c) t) (news := news) (srcs := []) (s := { s with heap := _ }) ?_ Ld ps stored R c₀ (fun c p hp => nomatch hp) hn hk hR turn done)
  have W : Walks prog w A s.heap.objs.size [s.heap.objs.size] [s.heap.objs.size] n (fun i v => i < n ∧ ∃ t, v = .int (a₀ + i * c) t)
      (fun i h => IsRangeIter h s.heap.objs.size (a₀ + (i : Nat) * c) ((n : Int) - (i : Nat)) c) := (Walks.range hh _ a₀ c n).bound
  have K := KTurns.ofWalks (target := .Name x px) W fun i v s Q E st q => letGo_name q
  refine ⟨s.heap.objs.size, [s.heap.objs.size], [s.heap.objs.size], _, _, rfl, { K with item := fun i s Q E hi st hQ => K.item i s Q E hi st hQ, go := fun i v s Q E hm hQ => K.go i v s Q E hm fun h' hp st hk => hQ h' hp.2 st hk }, ?_, ?_, ?_, (by show IsRangeIter _ _ _ _ _; rw [hn']; simpa using Heap.get?_push_size _ rfl), fun b hb => .inl hb, ?_, F.push _, fun p hp => ⟨Heap.get?_push_of_some _ (N p hp).1, (N p hp).2⟩⟩
  · intro hI
    exact absurd F.ns.lt ((List.mem_singleton.mp hI) ▸ Nat.lt_irrefl _)
  · intro b hb
    rw [List.mem_singleton.mp hb]
    exact next_is_new F
  · intro p hp hI
    exact absurd (Heap.lt_size (N p hp).1) ((List.mem_singleton.mp hI) ▸ Nat.lt_irrefl _)
  · intro i h st b hb
    rw [List.mem_singleton.mp hb]
    exact ⟨_, st⟩
theorem UpdF.app {d : Addr} {o : Obj} {own r : Led} {g : Obj → Led} (h : ∀ p ∈ own, p.1 ≠ d) (U : UpdF d o r g) : UpdF d o (own ++ r) (fun o' => own ++ g o') := by
  induction own with
  | nil => exact U
  | cons p own ih => exact .tail (h p List.mem_cons_self) (ih fun q hq => h q (List.mem_cons_of_mem _ hq))
theorem off_of {own : Led} {wr : List Addr} {Ld : Led} {a : Addr} {o : Obj} (hw : ∀ p ∈ Ld, p.1 ∉ wr) (hown : ∀ p ∈ own, p.1 ∈ wr) (h : (a, o) ∈ Ld) : ∀ p ∈ own, p.1 ≠ a := fun p hp e => hw _ h (e ▸ hown p hp)
theorem off_lt {news : Led} {a b : Addr} (h : ∀ p ∈ news, p.1 < a) (l : a ≤ b) : ∀ p ∈ news, p.1 ≠ b := fun p hp e => by have := h p hp; rw [e] at this; exact absurd l (Nat.not_le.mpr this)
end
end Nz

set_option maxRecDepth 100000
set_option linter.unusedVariables false
namespace Nz
def rtD (ρ : Rat) : Dat := .tuple [.int ρ.num, .int (ρ.den : Int)]
def termD (t : Int × Rat) : Dat := .tuple [.int t.1, rtD t.2]
def termsD (ts : List (Int × Rat)) : Dat := .tuple (ts.map termD)
def rowD (r : Row) : Dat := .tuple [termsD r.ts, .str r.rel, rtD r.b]
section
variable {news : Led} {v : Value}
theorem RtIn.dat {ρ : Rat} (h : RtIn news v ρ) : DatIn news v (rtD ρ) := by
  cases h with | mk h => exact .tuple h (.cons (.int _ _) (.cons (.int _ _) .nil))
theorem TermIn.dat {t : Int × Rat} (h : TermIn news v t) : DatIn news v (termD t) := by
  cases h with | mk h r => exact .tuple h (.cons (.int _ _) (.cons r.dat .nil))
theorem terms_dat : ∀ {vs : List Value} {ts : List (Int × Rat)}, All2 (TermIn news) vs ts → DatAll news vs (ts.map termD)
  | _, _, .nil => .nil
  | _, _, .cons h r => .cons h.dat (terms_dat r)
theorem TermsIn.dat {ts : List (Int × Rat)} (h : TermsIn news v ts) : DatIn news v (termsD ts) := by
  cases h with | mk h r => exact .tuple h (terms_dat r)
theorem RowIn.dat {row : Row} (h : RowIn news v row) : DatIn news v (rowD row) := by
  cases h with | mk h r k => exact .tuple h (.cons r.dat (.cons (.str _ _) (.cons k.dat .nil)))
end
theorem rtD_ok (ρ : Rat) (n : Nat) : kqdOk (n + 1) (rtD ρ) = true := by simp [kqdOk, rtD]
theorem termsD_ok (ts : List (Int × Rat)) (n : Nat) : kqdOk (n + 3) (termsD ts) = true := by
  simp only [kqdOk, termsD, List.all_map, List.all_eq_true]
  intro t _
  simp [kqdOk, termD, rtD]
theorem rowD_ok (r : Row) (hs : PyData.strOk r.rel = true) (n : Nat) : kqdOk (n + 4) (rowD r) = true := by
  have h1 := termsD_ok r.ts n
  have h2 := rtD_ok r.b (n + 2)
  simp only [rowD, kqdOk, List.all_cons, List.all_nil, Bool.and_true, Bool.and_eq_true]
  exact ⟨h1, hs, h2⟩
section
variable {prog : Program} {w : World} {A : Around} {E : Value → Shared → Prop} {s : Shared} {h₀ : Heap} {L : Addr} {a b : Addr} {d e : Dat} {news : Led} {Q : Value → Shared → Prop}
theorem nz_eqv {d e : Dat} (hd : kqdOk 8 d = true) (he : kqdOk 8 e = true) {r : Bool} (hr : (d = e) ↔ r = true) : PyData.eqv (kqdP d) (kqdP e) = r := by
  have q := kqd_eqv 8 d e 8 hd he
  cases r with
  | true => exact q.mpr (hr.mpr rfl)
  | false => exact Bool.eq_false_iff.mpr fun x => Bool.false_ne_true (hr.mp (q.mp x))
theorem nz_shaped {d : Dat} (hd : kqdOk 8 d = true) : SeqAt.shaped (kqdP d) = true := by
  have l := kqd_lay 8 d hd
  unfold SeqAt.shaped
  rw [l.1, Bool.true_and]
  exact decide_eq_true (Nat.le_trans l.2 (by decide))
theorem nz_eq (N : News h₀ L s.heap news) (Da : DatIn news (.ref a) d) (Db : DatIn news (.ref b) e) (ha : kqdOk 8 d = true) (hb : kqdOk 8 e = true) (hu : A.units + 64 < cLine) {r : Bool} (hr : (d = e) ↔ r = true)
    (h : Q (.bool r) s) : wpAny (model prog w) A (compareOp .Eq (.ref a) (.ref b)) Q E s := by
  obtain ⟨as, ra⟩ := kqd_in N 8 Da ha
  obtain ⟨bs, rb⟩ := kqd_in N 8 Db hb
  exact eq_dataH ra rb (nz_shaped ha) (nz_shaped hb) hu (by rw [nz_eqv ha hb hr]; exact h)
theorem nz_ne (N : News h₀ L s.heap news) (Da : DatIn news (.ref a) d) (Db : DatIn news (.ref b) e) (ha : kqdOk 8 d = true) (hb : kqdOk 8 e = true) (hu : A.units + 64 < cLine) {r : Bool} (hr : (d = e) ↔ r = true)
    (h : Q (.bool (!r)) s) : wpAny (model prog w) A (compareOp .NotEq (.ref a) (.ref b)) Q E s := by
  obtain ⟨as, ra⟩ := kqd_in N 8 Da ha
  obtain ⟨bs, rb⟩ := kqd_in N 8 Db hb
  exact ne_dataH ra rb (nz_shaped ha) (nz_shaped hb) hu (by rw [nz_eqv ha hb hr]; exact h)
end
end Nz
namespace Nz
/-- a contract of a def that may change an object of the ledger -/
def SpecU (w : World) (mean : ExcName → Option Value) (mg mb : Str → Option Value) (f : Addr) (dep : Nat) (news : Led) (vs : List Value) (R : Led → Value → Prop) : Prop :=
  ∀ (dp un : Nat) (gd : Option (List Code)) (cn : Str) (cs : Scope) (a : Addr) (ccd : Value) (cl : List (Str × Addr)) (outer : List Env) (A₀ : Around) (base h₀ : Heap) (L : Addr) (m : Str → Option Value) (s : Shared) (Q E : Value → Shared → Prop),
    Below A₀ base outer h₀ → Fr h₀ L s.heap m → (pre.heap_1_39 w.params).In h₀ → News h₀ L s.heap news → Top pre.view_1_40 (looseW pre.view_1_40 []) mean mg mb h₀ → cs.kind = .function → dp + dep < recursionLimit → un + 8 * dep < cLine →
    (∀ r nx h' tk', Fr h₀ L h' m → News h₀ L h' nx → R nx r → Q r { s with heap := h', toks := tk' }) →
    wpAny (model PySem.Challenge.rw_nz0148_01.row.prog w) (ktrTop dp un gd cn cs L a ccd cl outer) (call (.ref f) vs) Q E s
theorem specU_use {w : World} {mean : ExcName → Option Value} {mg mb : Str → Option Value} {f : Addr} {dep : Nat} {news : Led} {vs : List Value} {R : Led → Value → Prop} (H : SpecU w mean mg mb f dep news vs R)
    {dp un : Nat} {gd : Option (List Code)} {cn : Str} {cs : Scope} {a : Addr} {ccd : Value} {cl : List (Str × Addr)} {outer : List Env} {A₀ : Around} {base h₀ : Heap} {L : Addr} {m : Str → Option Value} {s : Shared} {Q E : Value → Shared → Prop}
    (B : Below A₀ base outer h₀) (F : Fr h₀ L s.heap m) (X : (pre.heap_1_39 w.params).In h₀) (N : News h₀ L s.heap news) (T : Top pre.view_1_40 (looseW pre.view_1_40 []) mean mg mb h₀) (hk : cs.kind = .function) (hd : dp + dep < recursionLimit) (hu : un + 8 * dep < cLine)
    (ret : ∀ r nx h' tk', Fr h₀ L h' m → News h₀ L h' nx → R nx r → Q r { s with heap := h', toks := tk' }) :
    wpAny (model PySem.Challenge.rw_nz0148_01.row.prog w) (ktrTop dp un gd cn cs L a ccd cl outer) (call (.ref f) vs) Q E s := H _ _ _ _ _ _ _ _ _ _ _ _ _ _ _ _ _ B F X N T hk hd hu ret
/-- the tape: a dict of its cells and its spot -/
structure TapeO (prog : Program) (w : World) (o : Obj) (C : Addr) (sp : Int) (u : Tok) : Prop where
  d : o.IsDictOf (PySem.strKind prog w) [(Str.ofString "cells", .ref C), (Str.ofString "spot", .int sp u)]
end Nz
namespace Nz
section
variable {prog : Program} {w : World} {A : Around} {E : Value → Shared → Prop} {s : Shared} {h₀ : Heap} {L : Addr} {news : Led}
theorem nz_lenL {l : Addr} {vs : List Value} {kk : Nat} {Q : Value → Shared → Prop} (N : News h₀ L s.heap news) (hm : (l, listOf vs.toArray kk) ∈ news) (hz : vs.length ≤ 1000)
    (h : Q (.int (vs.length : Int) (s.toks + 1)) { s with toks := s.toks + 1 + 1 }) : wpAny (model prog w) A (call (.builtin "len") [.ref l]) Q E s :=
  len_list (N.isList hm) (by rw [List.size_toArray]; omega) (by rw [List.size_toArray]; exact h)
theorem nz_itemL {value slice : Expr} {l : Addr} {vs : List Value} {kk : Nat} {k : Int} {u : Tok} {x : Value} {Q : Value → Shared → Prop} (N : News h₀ L s.heap news) (hm : (l, listOf vs.toArray kk) ∈ news) (h0 : 0 ≤ k) (hfit : k < 2 ^ 63) (hx : vs[k.toNat]? = some x) (h : Q x s)
    (hs : subscripted slice false (.ref l) (.int k u) = operate [.ref l, .int k u] (getItem (.ref l) (.int k u)) := by with_unfolding_all rfl) (hg : ∀ r, letTemporaryGo value (.ref l) r = pure () := by intro _; with_unfolding_all rfl) :
    wpAny (model prog w) A (subscriptTail value slice (.ref l) (.int k u)) Q E s :=
  item_listL (N.isList hm) h0 hfit hx h hs hg
theorem stored_spot {C : Addr} {sp : Int} {u : Tok} {v : Value} : stored [(Str.ofString "cells", Value.ref C), (Str.ofString "spot", Value.int sp u)] (Str.ofString "spot") v = [(Str.ofString "cells", .ref C), (Str.ofString "spot", v)] := by
  have h : (Str.ofString "cells" = Str.ofString "spot") = False := by decide
  simp [stored, h]
theorem str_is {prog : Program} {w : World} {k : Str} {t : Tok} : (PySem.strKind prog w).is k (.str k t) = true := by simp [PySem.strKind, Value.isStrOf]
end
end Nz
namespace Nz
theorem post_ret {σ : Type} {h₀ : Heap} {L : Addr} {wr : List Addr} {own : Led} {s₁ : Shared} {Ld : σ → Led} {ps : σ → List (Str × Value)} {stored : List Str} {m₀ : Str → Option Value} {R : σ → Prop} {Q : Flow → Shared → Prop} {v : Value} {s₂ : Shared}
    (h : Q (.ret v) s₂) : NzPost h₀ L wr own s₁ Ld ps stored m₀ R Q (.ret v) s₂ := h
end Nz
namespace Nz
section
variable {prog : Program} {w : World} {A : Around} {E : Value → Shared → Prop} {s : Shared} {env : Env} {h₀ : Heap} {m₀ : Str → Option Value} {body : List Stmt} {Q : Flow → Shared → Prop} {news : Led} {test : Expr} {pos : Pos}
inductive NzWInv {σ : Type} (Ld : σ → Led) (ps : σ → List (Str × Value)) (stored : List Str) (m₀ : Str → Option Value) (R : σ → Prop) (m' : Str → Option Value) (nx : Led) : Prop
  | mk (c : σ) (e : nx = Ld c) (hk : ∀ p ∈ ps c, m' p.1 = some p.2) (hr : ∀ z, (∀ p ∈ ps c, z ≠ p.1) → stored.contains z = false → m' z = m₀ z) (hR : R c) : NzWInv Ld ps stored m₀ R m' nx
/-- a while whose state is of one's own make -/
theorem nz_while {σ : Type} (F : Fr h₀ env.locals s.heap m₀) (N : News h₀ env.locals s.heap news) (Ld : σ → Led) (ps : σ → List (Str × Value)) (stored : List Str) (R : Nat → σ → Prop) (n₀ : Nat) (c₀ : σ)
    (hn : ∀ p ∈ Ld c₀, p ∈ news) (hk : ∀ p ∈ ps c₀, m₀ p.1 = some p.2) (hR : R n₀ c₀)
    (turn : ∀ n (c : σ) (u : Str → Option Value) h tk, R n c → Fr h₀ env.locals h (kstB (fun z => if stored.contains z then u z else m₀ z) (ps c)) → News h₀ env.locals h (Ld c) →
      wpAny (model prog w) A (isTrue test env (eval test env)) (fun b s₂ =>
        if b = true then wpAny (model prog w) A (execs body env) (NzPost h₀ env.locals [] [] { s with heap := h, toks := tk } Ld ps stored m₀ (fun c' => ∃ n', n' < n ∧ R n' c') Q) E s₂ else Q .next s₂) E { s with heap := h, toks := tk })
    (hE : PassesOwn (model prog w) A env E := by passes_own) :
    wpAny (model prog w) A (exec (.While test body [] pos) env) Q E s := by
  refine While_inv2 (fun n m' nx => NzWInv Ld ps stored m₀ (R n) m' nx) (n₀ := n₀) F (fun p hp => N p (hn p hp)) ⟨c₀, rfl, hk, fun _ _ _ => rfl, hR⟩ ?_ hE
  rintro n m₁ news₁ h₁ tk₁ F₁ N₁ ⟨c, rfl, h1, h2, hRc⟩
  refine wpAny_mono (turn n c m₁ h₁ tk₁ hRc (ksw_fr h1 h2 F₁) N₁) (fun b s₂ p => ?_) fun _ _ e => e
  cases b with
  | false => exact p
  | true =>
    refine wpAny_mono p (fun f s₃ q => ?_) fun _ _ e => e
    have fin : NzEnd h₀ env.locals [] [] { s with heap := h₁, toks := tk₁ } Ld ps stored m₀ (fun c' => ∃ n', n' < n ∧ R n' c') s₃ →
        ∃ h' tk m₂ news₂ n', s₃ = { s with heap := h', toks := tk } ∧ Fr h₀ env.locals h' m₂ ∧ News h₀ env.locals h' news₂ ∧ n' < n ∧ NzWInv Ld ps stored m₀ (R n') m₂ news₂ := by
      rintro ⟨c', h', tk', m', news', rfl, F', N', _, hn', _, hk', hr', n', hlt, hR'⟩
      exact ⟨h', tk', m', Ld c', n', rfl, F', fun p hp => N' p (hn' p hp), hlt, ⟨c', rfl, hk', hr', hR'⟩⟩
    cases f with
    | ret v => exact q
    | brk => exact q
    | next => exact fin q
    | cont => exact fin q
end
end Nz

set_option maxRecDepth 100000
set_option linter.unusedVariables false
namespace Nz
/-- the bank's keys on the heap: (a text, (), an int, an int) -/
inductive IsKey (h : Heap) : Str × Int × Int → Addr → Prop
  | mk {a e : Addr} {x : Str} {i j : Int} {t u v : Tok} {n m : Nat} : h.get? a = some { cls := .type "tuple", data := .seq #[.str x t, .ref e, .int i u, .int j v] n } → h.get? e = some { cls := .type "tuple", data := .seq #[] m } → IsKey h (x, i, j) a
theorem empty_key {prog : Program} {w : World} {h : Heap} {e : Addr} {m : Nat} (x : h.get? e = some { cls := .type "tuple", data := .seq #[] m }) : IsTupleKey (PySem.intKind prog w) h [] e := ⟨_, #[], m, x, rfl, rfl, .nil⟩
section
variable {prog : Program} {w : World} {A : Around} {E : Value → Shared → Prop} {s : Shared}
def keyHash (prog : Program) (w : World) (k : Str × Int × Int) : Int := reduceHash (Builtin.Tuple.tupleHashOf [(PySem.strKind prog w).hash k.1, tupleKeyHash (PySem.intKind prog w) [], (PySem.intKind prog w).hash k.2.1, (PySem.intKind prog w).hash k.2.2])
theorem special_by {self : Value} {T : String} {name : Str} {id : String} {b : Builtin} {refuse : Sem Value} {Q : Option Value → Shared → Prop} (hT : s.TypeIs self T) (h : Slot T name id) (hb : entryFor table id = some b) (ha : argsOk id ⟨[self], []⟩)
    (hc : wpAny (model prog w) A.in1 (b ⟨[self], []⟩) (fun fin s' => ∃ v, fin = .done (.ret v) ∧ Q (some v) s') E s) : wpAny (model prog w) A (callSpecialIfBoundUnlessNone? self name refuse) Q E s :=
  wpAny_callSpecialIfBoundUnlessNone?_slot hT h (wpAny_call_entry h hT hb hc ha)
theorem hash_body {x : Str} {i j : Int} {t u v : Tok} {a e : Addr} {n m : Nat} {Q : Value → Shared → Prop} (hu : A.units + 1 < cLine) (ha : s.heap.get? a = some { cls := .type "tuple", data := .seq #[.str x t, .ref e, .int i u, .int j v] n }) (he : s.heap.get? e = some { cls := .type "tuple", data := .seq #[] m })
    (h : Q (.int (Builtin.Tuple.tupleHashOf [(PySem.strKind prog w).hash x, tupleKeyHash (PySem.intKind prog w) [], (PySem.intKind prog w).hash i, (PySem.intKind prog w).hash j]) (s.toks + 4)) { s with toks := s.toks + 5 }) :
    wpAny (model prog w) A (Builtin.«tuple.__hash__» ⟨[.ref a], []⟩) (fun fin s' => ∃ v, fin = .done (.ret v) ∧ Q v s') E s := by
  show wpAny _ _ (Builtin.Tuple.tupleItemsOf (.ref a) >>= fun xs => forIn xs #[] _ >>= _) _ _ _
  refine wpAny_bind (wpAny_tupleItemsOf ha rfl (wpAny_bind ?_))
  rw [← Array.forIn_toList]
  simp only [List.forIn_cons, List.forIn_nil]
  refine wpAny_bind (wpAny_bind ((PySem.strKind prog w).pyHash (k := x) (by simp [PySem.strKind, Value.isStrOf]) (wpAny_pure ?_)))
  refine wpAny_bind (wpAny_bind (wpAny_pyHash_tuple (by omega) (empty_key (prog := prog) (w := w) he) (wpAny_pure ?_)))
  refine wpAny_bind (wpAny_bind ((PySem.intKind prog w).pyHash (k := i) (by simp [PySem.intKind, Value.isInt]) (wpAny_pure ?_)))
  refine wpAny_bind (wpAny_bind ((PySem.intKind prog w).pyHash (k := j) (by simp [PySem.intKind, Value.isInt]) (wpAny_pure (wpAny_pure ?_))))
  exact wpAny_ret_mkInt h
theorem key_pyHash {k : Str × Int × Int} {a : Addr} {Q : Int → Shared → Prop} (hu : A.units + 2 < cLine) (hk : IsKey s.heap k a) (h : Q (keyHash prog w k) { s with toks := s.toks + 5 }) :
    wpAny (model prog w) A (pyHash (.ref a)) Q E s := by
  obtain ⟨ha, he⟩ := hk
  have hT : s.TypeIs (.ref a) "tuple" := ⟨_, ha, rfl⟩
  have hl := F.slot_tuple_hash.lookup
  show wpAny _ _ (pyHashByItsType (.ref a)) _ _ _
  refine wpAny_bind (wpAny_cRoomFor_or (.inr (by omega)) ?_)
  have hb : ∀ {refuse : Sem Value} {Q : Option Value → Shared → Prop}, _ → wpAny (model prog w) A (callSpecialIfBoundUnlessNone? (.ref a) "__hash__" refuse) Q E s := fun {refuse Q} q => special_by hT F.slot_tuple_hash F.entry_tuple_hash (F.args_tuple_hash_1 _) (hash_body (prog := prog) (w := w) (show A.units + 1 + 1 < cLine by omega) ha he q)
  cases s
  wp_walk using hb
  unfold keyHash reduceHash at h
  split at h
  · next c => exact wpAny_ite_true (by simpa using c) (wpAny_pure h)
  · next c => exact wpAny_ite_false (by simpa using c) (wpAny_bind (wpAny_rule (wpAny_pure h)))
/-- == of two keys: the texts, (), the ints, one after the other -/
theorem eq_body {k k' : Str × Int × Int} {a b : Addr} {Q : Value → Shared → Prop} (hu : A.units + 1 < cLine) (ha : IsKey s.heap k a) (hb : IsKey s.heap k' b) (h : Q (.bool (decide (k = k'))) s) :
    wpAny (model prog w) A (Builtin.«tuple.__eq__» ⟨[.ref a, .ref b], []⟩) (fun fin s' => ∃ v, fin = .done (.ret v) ∧ Q v s') E s := by
  obtain ⟨ha, he⟩ := ha
  obtain ⟨hb, he'⟩ := hb
  have hT : s.TypeIs (.ref b) "tuple" := ⟨_, hb, rfl⟩
  show wpAny _ _ (isInstance (.ref b) (.type "tuple") >>= _) _ _ s
  refine wpAny_bind (wpAny_isInstance hT isSubtype_tuple_tuple ?_)
  refine wpAny_bind (wpAny_tupleItemsOf ha rfl (wpAny_bind (wpAny_tupleItemsOf hb rfl (wpAny_bind ?_))))
  rename_i e x i j t u v n m e' x' i' j' t' u' v' n' m'
  simp only [List.zip_cons_cons, List.zip_nil_right, List.forIn_cons, List.forIn_nil]
  have no : (x, i, j) ≠ (x', i', j') → Q (.bool false) s := fun c => by rw [decide_eq_false c] at h; exact h
  refine wpAny_bind (wpAny_bind ((PySem.strKind prog w).eqBool (a := x) (b := x') (by simp [PySem.strKind, Value.isStrOf]) (by simp [PySem.strKind, Value.isStrOf]) ?_))
  by_cases c1 : x = x'
  case neg => exact wpAny_ite_true (by simp [c1]) (wpAny_bind (wpAny_pure (wpAny_pure (wpAny_pure (wpAny_pure ⟨_, rfl, no (by simp [c1])⟩)))))
  refine wpAny_ite_false (by simp [c1]) (wpAny_pure (wpAny_bind (wpAny_bind (wpAny_eqBool_tuple (by omega) (empty_key (prog := prog) (w := w) he) (empty_key he') (wpAny_ite_false rfl (wpAny_pure ?_))))))
  refine wpAny_bind (wpAny_bind ((PySem.intKind prog w).eqBool (a := i) (b := i') (by simp [PySem.intKind, Value.isInt]) (by simp [PySem.intKind, Value.isInt]) ?_))
  by_cases c2 : i = i'
  case neg => exact wpAny_ite_true (by simp [c2]) (wpAny_bind (wpAny_pure (wpAny_pure (wpAny_pure (wpAny_pure ⟨_, rfl, no (by simp [c2])⟩)))))
  refine wpAny_ite_false (by simp [c2]) (wpAny_pure (wpAny_bind (wpAny_bind ((PySem.intKind prog w).eqBool (a := j) (b := j') (by simp [PySem.intKind, Value.isInt]) (by simp [PySem.intKind, Value.isInt]) ?_))))
  by_cases c3 : j = j'
  case neg => exact wpAny_ite_true (by simp [c3]) (wpAny_bind (wpAny_pure (wpAny_pure (wpAny_pure (wpAny_pure ⟨_, rfl, no (by simp [c3])⟩)))))
  rw [decide_eq_true (by rw [c1, c2, c3])] at h
  exact wpAny_ite_false (by simp [c3]) (wpAny_pure (wpAny_pure (wpAny_pure ⟨_, rfl, h⟩)))
theorem IsKey.inj {h : Heap} {a : Addr} {k k' : Str × Int × Int} (x : IsKey h k a) (y : IsKey h k' a) : k = k' := by
  obtain ⟨x1, _⟩ := x
  obtain ⟨y1, _⟩ := y
  rw [x1] at y1
  simp only [Option.some.injEq, Obj.mk.injEq, Data.seq.injEq, true_and, Array.mk.injEq, List.cons.injEq, Value.str.injEq, Value.int.injEq, and_true] at y1
  obtain ⟨⟨⟨rfl, _⟩, _, ⟨rfl, _⟩, rfl, _⟩, _⟩ := y1
  rfl
theorem IsKey.keeps {h h' : Heap} {k : Str × Int × Int} {a d : Addr} {o : Obj} {es ep} (x : IsKey h k a) (ho : h.get? d = some o) (hd : o.data = .dict es ep) (hs : Heap.SameBut d h h') : IsKey h' k a := by
  have ne : ∀ {c : Addr} {p : Obj} {q n}, h.get? c = some p → p.data = .seq q n → c ≠ d := fun hc hp q => by
    subst q
    rw [ho] at hc
    cases hc
    rw [hd] at hp
    cases hp
  obtain ⟨x1, x2⟩ := x
  exact ⟨(hs.2 _ (ne x1 rfl)).trans x1, (hs.2 _ (ne x2 rfl)).trans x2⟩
theorem IsKey.type {k : Str × Int × Int} {a : Addr} (x : IsKey s.heap k a) : s.TypeIs (.ref a) "tuple" := by
  obtain ⟨x1, _⟩ := x
  exact ⟨_, x1, rfl⟩
theorem key_eqBool {k k' : Str × Int × Int} {a b : Addr} {Q : Bool → Shared → Prop} (hu : A.units + 2 < cLine) (hx : IsKey s.heap k a) (hy : IsKey s.heap k' b) (h : Q (decide (k = k')) s) : wpAny (model prog w) A (eqBool (.ref a) (.ref b)) Q E s := by
  by_cases c : a = b
  · subst c
    obtain rfl := hx.inj hy
    rw [decide_eq_true rfl] at h
    wp_walk
    exact h
  · have hr := fun Q (h : Q (Value.bool (decide (k = k'))) s) => wpAny_richCompare_same_room (E := E) (Q := Q) (op := .Eq) hx.type hy.type F.slot_tuple_eq (wpAny_call_entry F.slot_tuple_eq hx.type F.entry_tuple_eq (eq_body (prog := prog) (w := w) (A := A.in1) (by show A.units + 1 + 1 < cLine; omega) hx hy ⟨(fun e => nomatch e), h⟩) (F.args_tuple_eq_2 _ _)) (by omega)
    wp_walk using hr
    exact h
theorem quiet_empty {e : Addr} {m n : Nat} {Q : Bool → Shared → Prop} (he : s.heap.get? e = some { cls := .type "tuple", data := .seq #[] m }) (h : Q true s) : wpAny (model prog w) A (eqIsQuiet (n + 1) (.ref e)) Q E s := by
  have hT : s.TypeIs (.ref e) "tuple" := ⟨_, he, rfl⟩
  have hl : typeLookup (.type "tuple") (Str.ofString "__eq__") = pure (some (.builtin "tuple.__eq__")) := F.slot_tuple_eq.lookup
  have hst := isSubtype_tuple_tuple
  unfold eqIsQuiet
  cases s
  wp_walk
  exact h
theorem key_quiet {k : Str × Int × Int} {a : Addr} {Q : Bool → Shared → Prop} (hk : IsKey s.heap k a) (h : Q true s) : wpAny (model prog w) A (eqIsQuiet 8 (.ref a)) Q E s := by
  have hT := hk.type
  obtain ⟨x1, x2⟩ := hk
  have hl : typeLookup (.type "tuple") (Str.ofString "__eq__") = pure (some (.builtin "tuple.__eq__")) := F.slot_tuple_eq.lookup
  have hst := isSubtype_tuple_tuple
  unfold eqIsQuiet
  cases s
  wp_walk
  refine quiet_empty x2 ?_
  wp_walk
  exact h
end
/-- the bank's keys: (a text, (), an int, an int) -/
def bankKind (prog : Program) (w : World) : HeapKind prog w (Str × Int × Int) where
  is := IsKey
  hash := keyHash prog w
  draws := fun _ => 5
  room := fun A => A.units + 2 < cLine
  inj := IsKey.inj
  keeps := IsKey.keeps
  pyHash := key_pyHash
  eqBool := key_eqBool
  quiet := key_quiet
end Nz

set_option maxRecDepth 100000
set_option linter.unusedVariables false
namespace Nz
set_option cleanup.letToHave false in
theorem fold1 {α : Type} {M : Model} {A : Around} {t : Sem α} {Q : α → Shared → Prop} {E : Value → Shared → Prop} {s : Shared} (h : let qk := Q; wpAny M A t qk E s) : wpAny M A t Q E s := h
set_option cleanup.letToHave false in
theorem fold_fr {h₀ h : Heap} {L : Addr} {m : Str → Option Value} {G : Prop} (F : Fr h₀ L h m) (k : let u := m; Fr h₀ L h u → G) : G := k F
theorem ne_lo {a D : Nat} {o : Obj} {l : Led} (h : ∀ p ∈ l, @LT.lt Nat _ p.1 D) (m : (a, o) ∈ l) : a ≠ D := Nat.ne_of_lt (h _ m)
theorem room (k : Nat) {x L : Nat} (h : x + k < L) : x < L := Nat.lt_of_le_of_lt (Nat.le_add_right x k) h
theorem room_d {dp un : Nat} {gd : Option (List Code)} {cn : Str} {cs : Scope} {L a : Addr} {ccd : Value} {cl : List (Str × Addr)} {outer : List Env} {dep n R : Nat} (h : dp + n < R) (hc : Nat.ble (1 + dep) n = true) : (ktrTop dp un gd cn cs L a ccd cl outer).depth + 1 + dep < R := by
  show dp + 1 + dep < R
  have := Nat.le_of_ble_eq_true hc
  omega
theorem units_d {dp un : Nat} {gd : Option (List Code)} {cn : Str} {cs : Scope} {L a : Addr} {ccd : Value} {cl : List (Str × Addr)} {outer : List Env} {dep n R : Nat} (h : un + 8 * n < R) (hc : Nat.ble (3 + 8 * dep) (8 * n) = true) : (ktrTop dp un gd cn cs L a ccd cl outer).units + 3 + 8 * dep < R := by
  show un + 3 + 8 * dep < R
  have := Nat.le_of_ble_eq_true hc
  omega
theorem lt_lo {a D : Nat} {o : Obj} {l : Led} (h : ∀ p ∈ l, @LT.lt Nat _ p.1 D) (m : (a, o) ∈ l) : a < D := h _ m
theorem ne_hi {a D : Nat} {o : Obj} {l : Led} (h : ∀ p ∈ l, @LT.lt Nat _ p.1 D) (m : (a, o) ∈ l) : D ≠ a := Nat.ne_of_gt (h _ m)
section
variable {w : World} {mean : ExcName → Option Value} {mg mb : Str → Option Value} {f : Addr} {dep : Nat} {news : Led} {vs : List Value} {dp un : Nat} {gd : Option (List Code)} {cn : Str} {cs : Scope} {a : Addr} {ccd : Value} {cl : List (Str × Addr)} {outer : List Env} {A₀ : Around} {base h₀ : Heap} {L : Addr} {m : Str → Option Value} {hh : Heap} {gg : Array GenState} {dd : Drawn} {TT : Nat} {oo : OsState} {Q E : Value → Shared → Prop}
theorem use_rt {ρ : Rat} (N : News h₀ L hh news) (B : Below A₀ base outer h₀) (F : Fr h₀ L hh m) (X : (pre.heap_1_39 w.params).In h₀) (T : Top pre.view_1_40 (looseW pre.view_1_40 []) mean mg mb h₀) (hk : cs.kind = .function)
    (H : Spec w mean mg mb f dep news vs (RtNew news ρ)) (hd : dp + dep < recursionLimit) (hu : un + 8 * dep < cLine)
    (ret : ∀ D t u h' tk', Fr h₀ L h' m → News h₀ L h' ((D, tupO [.int ρ.num t, .int (ρ.den : Int) u]) :: news) → (∀ p ∈ news, p.1 < D) → Q (.ref D) ⟨h', gg, dd, tk', oo⟩) :
    wpAny (model PySem.Challenge.rw_nz0148_01.row.prog w) (ktrTop dp un gd cn cs L a ccd cl outer) (call (.ref f) vs) Q E ⟨hh, gg, dd, TT, oo⟩ :=
  spec_use H B F X N T hk hd hu fun r tl h' tk' F' N' hR => by obtain ⟨D, t, u, e1, e2, l⟩ := hR; subst e1; subst e2; exact ret D t u h' tk' F' N' l
theorem use_int {P : Int → Prop} (N : News h₀ L hh news) (B : Below A₀ base outer h₀) (F : Fr h₀ L hh m) (X : (pre.heap_1_39 w.params).In h₀) (T : Top pre.view_1_40 (looseW pre.view_1_40 []) mean mg mb h₀) (hk : cs.kind = .function)
    (H : Spec w mean mg mb f dep news vs (fun tl r => tl = [] ∧ ∃ g t, r = .int g t ∧ P g)) (hd : dp + dep < recursionLimit) (hu : un + 8 * dep < cLine)
    (ret : ∀ g t h' tk', Fr h₀ L h' m → News h₀ L h' news → P g → Q (.int g t) ⟨h', gg, dd, tk', oo⟩) :
    wpAny (model PySem.Challenge.rw_nz0148_01.row.prog w) (ktrTop dp un gd cn cs L a ccd cl outer) (call (.ref f) vs) Q E ⟨hh, gg, dd, TT, oo⟩ :=
  spec_use H B F X N T hk hd hu fun r tl h' tk' F' N' hR => by obtain ⟨e1, g, t, e2, p⟩ := hR; subst e1; subst e2; exact ret g t h' tk' F' N' p
theorem use_val {P : Value → Prop} (N : News h₀ L hh news) (B : Below A₀ base outer h₀) (F : Fr h₀ L hh m) (X : (pre.heap_1_39 w.params).In h₀) (T : Top pre.view_1_40 (looseW pre.view_1_40 []) mean mg mb h₀) (hk : cs.kind = .function)
    (H : Spec w mean mg mb f dep news vs (fun tl r => tl = [] ∧ P r)) (hd : dp + dep < recursionLimit) (hu : un + 8 * dep < cLine)
    (ret : ∀ r, P r → ∀ h' tk', Fr h₀ L h' m → News h₀ L h' news → Q r ⟨h', gg, dd, tk', oo⟩) :
    wpAny (model PySem.Challenge.rw_nz0148_01.row.prog w) (ktrTop dp un gd cn cs L a ccd cl outer) (call (.ref f) vs) Q E ⟨hh, gg, dd, TT, oo⟩ :=
  spec_use H B F X N T hk hd hu fun r tl h' tk' F' N' hR => by obtain ⟨e1, p⟩ := hR; subst e1; exact ret r p h' tk' F' N'
theorem val_eq {v : Value} {G : Value → Prop} (h : G v) : ∀ r, r = v → G r := fun _ e => e ▸ h
theorem val_int {x : Int} {G : Value → Prop} (h : ∀ t, G (.int x t)) : ∀ r, (∃ t, r = .int x t) → G r := fun _ ⟨t, e⟩ => e ▸ h t
theorem val_or {P1 P2 : Prop} {v1 v2 : Value} {G : Value → Prop} (h1 : P1 → G v1) (h2 : P2 → G v2) : ∀ r, (P1 ∧ r = v1 ∨ P2 ∧ r = v2) → G r := fun _ e => e.elim (fun e => e.2 ▸ h1 e.1) (fun e => e.2 ▸ h2 e.1)
theorem use_wf {ρ : Rat} {P1 P2 : Prop} {v : Value} (N : News h₀ L hh news) (B : Below A₀ base outer h₀) (F : Fr h₀ L hh m) (X : (pre.heap_1_39 w.params).In h₀) (T : Top pre.view_1_40 (looseW pre.view_1_40 []) mean mg mb h₀) (hk : cs.kind = .function)
    (H : Spec w mean mg mb f dep news vs (fun tl r => (P1 ∧ tl = [] ∧ r = v) ∨ (P2 ∧ RtNew news ρ tl r))) (hd : dp + dep < recursionLimit) (hu : un + 8 * dep < cLine)
    (ret1 : P1 → ∀ h' tk', Fr h₀ L h' m → News h₀ L h' news → Q v ⟨h', gg, dd, tk', oo⟩)
    (ret2 : P2 → ∀ D t u h' tk', Fr h₀ L h' m → News h₀ L h' ((D, tupO [.int ρ.num t, .int (ρ.den : Int) u]) :: news) → (∀ p ∈ news, p.1 < D) → Q (.ref D) ⟨h', gg, dd, tk', oo⟩) :
    wpAny (model PySem.Challenge.rw_nz0148_01.row.prog w) (ktrTop dp un gd cn cs L a ccd cl outer) (call (.ref f) vs) Q E ⟨hh, gg, dd, TT, oo⟩ :=
  spec_use H B F X N T hk hd hu fun r tl h' tk' F' N' hR => by
    rcases hR with ⟨p, e1, e2⟩ | ⟨p, D, t, u, e1, e2, l⟩
    · subst e1; subst e2; exact ret1 p h' tk' F' N'
    · subst e1; subst e2; exact ret2 p D t u h' tk' F' N' l
theorem RowIn.at {all : Led} {a : Addr} {row : Row} {G : Prop} (h : RowIn all (.ref a) row) (k : ∀ (t b : Addr) (u : Tok) (vs : List Value) (x y : Tok), (a, tupO [.ref t, .str row.rel u, .ref b]) ∈ all → (t, tupO vs) ∈ all → All2 (TermIn all) vs row.ts → (b, tupO [.int row.b.num x, .int (row.b.den : Int) y]) ∈ all → G) : G := by
  cases h with | mk m T B =>
  cases T with | mk m2 al =>
  cases B with | mk m3 => exact k _ _ _ _ _ _ m m2 al m3
/-- what a row in the ledger is -/
theorem RowIn.use {all : Led} {v : Value} {row : Row} {G : Value → Prop} (h : RowIn all v row) (k : ∀ (a : Addr) (t b : Addr) (u : Tok) (vs : List Value) (x y : Tok), (a, tupO [.ref t, .str row.rel u, .ref b]) ∈ all → (t, tupO vs) ∈ all → All2 (TermIn all) vs row.ts → (b, tupO [.int row.b.num x, .int (row.b.den : Int) y]) ∈ all → RowIn all (.ref a) row → G (.ref a)) : G v := by
  have h' := h
  cases h with | mk m T B =>
  cases T with | mk m2 al =>
  cases B with | mk m3 => exact k _ _ _ _ _ _ _ m m2 al m3 h'
theorem use_row {row : Row} (N : News h₀ L hh news) (B : Below A₀ base outer h₀) (F : Fr h₀ L hh m) (X : (pre.heap_1_39 w.params).In h₀) (T : Top pre.view_1_40 (looseW pre.view_1_40 []) mean mg mb h₀) (hk : cs.kind = .function)
    (H : Spec w mean mg mb f dep news vs (fun tl r => RowIn (tl ++ news) r row)) (hd : dp + dep < recursionLimit) (hu : un + 8 * dep < cLine)
    (ret : ∀ tl h' tk' (a t b : Addr) (u : Tok) (vs : List Value) (x y : Tok), Fr h₀ L h' m → News h₀ L h' (tl ++ news) → (a, tupO [.ref t, .str row.rel u, .ref b]) ∈ tl ++ news → (t, tupO vs) ∈ tl ++ news → All2 (TermIn (tl ++ news)) vs row.ts → (b, tupO [.int row.b.num x, .int (row.b.den : Int) y]) ∈ tl ++ news → RowIn (tl ++ news) (.ref a) row → Q (.ref a) ⟨h', gg, dd, tk', oo⟩) :
    wpAny (model PySem.Challenge.rw_nz0148_01.row.prog w) (ktrTop dp un gd cn cs L a ccd cl outer) (call (.ref f) vs) Q E ⟨hh, gg, dd, TT, oo⟩ :=
  spec_use H B F X N T hk hd hu fun r tl h' tk' F' N' hR => hR.use (G := fun v => Q v _) fun a t b u vs x y m1 m2 al m3 hr => ret tl h' tk' a t b u vs x y F' N' m1 m2 al m3 hr
theorem use_gen {R : Led → Value → Prop} (N : News h₀ L hh news) (B : Below A₀ base outer h₀) (F : Fr h₀ L hh m) (X : (pre.heap_1_39 w.params).In h₀) (T : Top pre.view_1_40 (looseW pre.view_1_40 []) mean mg mb h₀) (hk : cs.kind = .function)
    (H : Spec w mean mg mb f dep news vs R) (hd : dp + dep < recursionLimit) (hu : un + 8 * dep < cLine)
    (ret : ∀ r tl h' tk', Fr h₀ L h' m → News h₀ L h' (tl ++ news) → R tl r → Q r ⟨h', gg, dd, tk', oo⟩) :
    wpAny (model PySem.Challenge.rw_nz0148_01.row.prog w) (ktrTop dp un gd cn cs L a ccd cl outer) (call (.ref f) vs) Q E ⟨hh, gg, dd, TT, oo⟩ := spec_use H B F X N T hk hd hu ret
theorem use_true (N : News h₀ L hh news) (B : Below A₀ base outer h₀) (F : Fr h₀ L hh m) (X : (pre.heap_1_39 w.params).In h₀) (T : Top pre.view_1_40 (looseW pre.view_1_40 []) mean mg mb h₀) (hk : cs.kind = .function)
    (H : Spec w mean mg mb f dep news vs (fun tl r => r = .bool true)) (hd : dp + dep < recursionLimit) (hu : un + 8 * dep < cLine)
    (ret : ∀ h' tk', Fr h₀ L h' m → News h₀ L h' news → Q (.bool true) ⟨h', gg, dd, tk', oo⟩) :
    wpAny (model PySem.Challenge.rw_nz0148_01.row.prog w) (ktrTop dp un gd cn cs L a ccd cl outer) (call (.ref f) vs) Q E ⟨hh, gg, dd, TT, oo⟩ :=
  spec_use H B F X N T hk hd hu fun r tl h' tk' F' N' e => by subst e; exact ret h' tk' F' (news_sub N' fun p hp => List.mem_append_right _ hp)
end
section
variable {news : Led}
theorem RowIn.at3 {all : Led} {a : Addr} {row : Row} {G : Prop} (h : RowIn all (.ref a) row) (k : ∀ (t b : Addr) (u : Tok) (vs : List Value) (x y : Tok), (a, tupO [.ref t, .str row.rel u, .ref b]) ∈ all → (t, tupO vs) ∈ all → All2 (TermIn all) vs row.ts → (b, tupO [.int row.b.num x, .int (row.b.den : Int) y]) ∈ all → G) : G := h.at k
/-- a term of a tuple of terms -/
theorem term_at {vs : List Value} {ts : List (Int × Rat)} {i : Nat} {G : Value → Prop} (h : All2 (TermIn news) vs ts)
    (k : ∀ (T : Addr) (kk : Int) (t : Tok) (r : Addr) (ρ : Rat) (u u' : Tok), ts[i]? = some (kk, ρ) → (T, tupO [.int kk t, .ref r]) ∈ news → (r, tupO [.int ρ.num u, .int (ρ.den : Int) u']) ∈ news → G (.ref T)) : ∀ v, vs[i]? = some v → G v := by
  intro v hv
  obtain ⟨x, hx, hT⟩ := h.get hv
  cases hT with | mk hm1 hm2 =>
  cases hm2 with | mk hm2 => exact k _ _ _ _ _ _ _ hx hm1 hm2
theorem bd_terms {n1 n2 : Str} {m' : Str → Option Value} {ts : List (Int × Rat)} {i : Nat} {G : Prop}
    (h : ∃ x1 x2, m' n1 = some x1 ∧ m' n2 = some x2 ∧ ∃ k t r ρ u u', ts[i]? = some (k, ρ) ∧ x1 = Value.int k t ∧ x2 = Value.ref r ∧ (r, tupO [.int ρ.num u, .int (ρ.den : Int) u']) ∈ news)
    (c : ∀ (k : Int) (t : Tok) (r : Addr) (ρ : Rat) (u u' : Tok), m' n1 = some (.int k t) → m' n2 = some (.ref r) → ts[i]? = some (k, ρ) → (r, tupO [.int ρ.num u, .int (ρ.den : Int) u']) ∈ news → G) : G := by
  obtain ⟨x1, x2, h1, h2, k, t, r, ρ, u, u', hx, rfl, rfl, hm⟩ := h
  exact c k t r ρ u u' h1 h2 hx hm
end
end Nz

namespace Nz
section
theorem const_any {prog : Program} {w : World} {A : Around} {env : Env} {i : Int} {k : Nat} {pos : Pos} {Q : Value → Shared → Prop} {E : Value → Shared → Prop} {h : Heap} {g : Array GenState} {d : Drawn} {T : Nat} {o : OsState} (H : ∀ t tk, Q (.int i t) ⟨h, g, d, tk, o⟩) : wpAny (model prog w) A (eval (.Constant (.int i) k pos) env) Q E ⟨h, g, d, T, o⟩ := wpAny_Constant_int (H _ _)
theorem fdiv_any {prog : Program} {w : World} {A : Around} {a b : Int} {t u : Tok} {Q : Value → Shared → Prop} {E : Value → Shared → Prop} {h : Heap} {g : Array GenState} {d : Drawn} {T : Nat} {o : OsState} (hb : b ≠ 0) (hp : -1152921504606846976 < b ∧ b < 1152921504606846976) (H : ∀ t tk, Q (.int (a.fdiv b) t) ⟨h, g, d, tk, o⟩) : wpAny (model prog w) A (binaryOp .FloorDiv (.int a t) (.int b u)) Q E ⟨h, g, d, T, o⟩ := floordiv_int hb (H _ _) (Or.inl (noPy hp.1 hp.2))
theorem fmod_any {prog : Program} {w : World} {A : Around} {a b : Int} {t u : Tok} {Q : Value → Shared → Prop} {E : Value → Shared → Prop} {h : Heap} {g : Array GenState} {d : Drawn} {T : Nat} {o : OsState} (hb : b ≠ 0) (H : ∀ t tk, Q (.int (a.fmod b) t) ⟨h, g, d, tk, o⟩) : wpAny (model prog w) A (binaryOp .Mod (.int a t) (.int b u)) Q E ⟨h, g, d, T, o⟩ := mod_int' hb (H _ _)
end
local macro_rules | `(tactic| walk_at "nz:fold") => `(tactic| ((fail_if_success (fail_if_success k_fold)); refine (let qk := _; (?_ : wpAny _ _ _ qk _ _))))
local macro_rules | `(tactic| walk_at "execs cons") => `(tactic| (k_here; walk_at "nz:fold"))
local macro_rules | `(tactic| walk_at "eval Call") => `(tactic| (k_here; walk_at "nz:fold"))
local macro_rules | `(tactic| walk_at "eval BinOp") => `(tactic| (k_here; walk_at "nz:fold"))
local macro_rules | `(tactic| walk_at "eval Subscript") => `(tactic| (k_here; walk_at "nz:fold"))
local macro_rules | `(tactic| walk_at "eval Tuple") => `(tactic| (k_here; walk_at "nz:fold"))
local macro_rules | `(tactic| walk_at "exec Assign") => `(tactic| (k_here; walk_at "nz:fold"))
local macro_rules | `(tactic| walk_at "eval Compare") => `(tactic| (k_here; walk_at "nz:fold"))
local macro_rules | `(tactic| walk_at "isTrue Compare") => `(tactic| (k_here; walk_at "nz:fold"))
local macro_rules | `(tactic| walk_at "spliced") => `(tactic| (k_here; walk_at "nz:fold"))
local macro_rules | `(tactic| walk_at "assignInOrder") => `(tactic| (k_here; walk_at "nz:fold"))
local macro_rules | `(tactic| walk_at "eval IfExp") => `(tactic| (k_here; walk_at "nz:fold"))
local macro_rules | `(tactic| walk_at "execs nil") => `(tactic| (k_here; walk_at "nz:fold"))
local macro_rules | `(tactic| walk_at "eval List") => `(tactic| (k_here; walk_at "nz:fold"))
local macro_rules | `(tactic| k_lt $x) => `(tactic| (have hA := allLt_of $x; dsimp only [AllLt] at hA))
local macro_rules | `(tactic| k_ne) => `(tactic| first | with_reducible assumption | exact ne_lo (by with_reducible assumption) (by k_mem) | exact ne_hi (by with_reducible assumption) (by k_mem) | exact Nat.ne_of_lt (by with_reducible assumption) | exact Nat.ne_of_gt (by with_reducible assumption) | (refine neN ?_; (try dsimp only); omega))
local macro_rules | `(tactic| walk_at "eval Constant int") => `(tactic| (k_here; with_reducible refine const_any (fun t tk => ?_)))
local macro_rules | `(tactic| walk_at "binaryOp FloorDiv int int") => `(tactic| (k_here; with_reducible refine fdiv_any (by assumption) (by assumption) (fun t tk => ?_)))
local macro_rules | `(tactic| walk_at "binaryOp Mod int int") => `(tactic| (k_here; with_reducible refine fmod_any (by assumption) (fun t tk => ?_)))
local macro_rules | `(tactic| walk_at "nz:asm") => `(tactic| ((iterate 5 k_asm); (first | exact rfl | assumption)))
local macro_rules | `(tactic| walk_at "nz:rt") => `(tactic| (k_dflt (apply use_rt; walk_at "nz:asm")))
local macro_rules | `(tactic| walk_at "nz:int") => `(tactic| (k_dflt (apply use_int; walk_at "nz:asm")))
local macro_rules | `(tactic| walk_at "nz:row") => `(tactic| (k_dflt (apply use_row; walk_at "nz:asm")))
local macro_rules | `(tactic| walk_at "nz:wf") => `(tactic| (k_dflt (apply use_wf; walk_at "nz:asm")))
local macro_rules | `(tactic| walk_at "nz:val") => `(tactic| (k_dflt (apply use_val; walk_at "nz:asm")))
local macro_rules | `(tactic| walk_at "nz:true") => `(tactic| (k_dflt (apply use_true; walk_at "nz:asm")))
local macro_rules | `(tactic| walk_at "nz:gen") => `(tactic| (k_dflt (apply use_gen; walk_at "nz:asm")))
local macro_rules | `(tactic| walk_at "nz:room") => `(tactic| ((· k_dflt (first | exact room_d (by assumption) rfl | ktr_room)); (· k_dflt (first | exact units_d (by assumption) rfl | ktr_units))))
local macro_rules | `(tactic| walk_at "nz:rt2") => `(tactic| (walk_at "nz:room"; intro D9 t9 u9 h9 tk9 F9 N9 l9; (try k_lt l9); (try dsimp only); (try walk_at "nz:fold")))
local macro_rules | `(tactic| walk_at "nz:int2") => `(tactic| (walk_at "nz:room"; intro g9 t9 h9 tk9 F9 N9 hg9; (try dsimp only); (try walk_at "nz:fold")))
local macro_rules | `(tactic| walk_at "nz:row2") => `(tactic| (walk_at "nz:room"; intro tl9 h9 tk9 a9 t9 b9 u9 vs9 x9 y9 F9 N9 m9 mt9 all9 mb9 hR8; (try dsimp only); (try walk_at "nz:fold")))
local macro_rules | `(tactic| walk_at "nz:wf2") => `(tactic| (walk_at "nz:room"; intro hz9 h9 tk9 F9 N9; (try dsimp only); (try walk_at "nz:fold"); rotate_left; intro hz9 D9 t9 u9 h9 tk9 F9 N9 l9; (try k_lt l9); (try dsimp only); (try walk_at "nz:fold"); rotate_right))
local macro_rules | `(tactic| walk_at "nz:bool2") => `(tactic| (walk_at "nz:room"; refine val_eq ?_; intro h9 tk9 F9 N9; (try dsimp only); (try walk_at "nz:fold")))
local macro_rules | `(tactic| walk_at "nz:intx2") => `(tactic| (walk_at "nz:room"; refine val_int ?_; intro t9 h9 tk9 F9 N9; (try dsimp only); (try walk_at "nz:fold")))
local macro_rules | `(tactic| walk_at "nz:or2") => `(tactic| (walk_at "nz:room"; refine val_or ?_ ?_ <;> (intro hz9 h9 tk9 F9 N9; (try dsimp only); (try walk_at "nz:fold"))))
local macro_rules | `(tactic| walk_at "nz:true2") => `(tactic| (walk_at "nz:room"; intro h9 tk9 F9 N9; (try dsimp only); (try walk_at "nz:fold")))
local macro_rules | `(tactic| walk_at "nz:gen2") => `(tactic| (walk_at "nz:room"; intro r9 tl9 h9 tk9 F9 N9 hR9; (try dsimp only); (try walk_at "nz:fold")))
local macro_rules | `(tactic| walk_at "nz:sub") => `(tactic| (repeat' first | exact sub_refl | with_reducible assumption | exact sub_nil | refine sub_cons (by k_mem) ?_ | refine sub_tail ?_ | exact sub_left | refine sub_app ?_ | refine sub_both ?_ ?_))
local macro_rules | `(tactic| walk_at "nz:row1") => `(tactic| (first | assumption | exact RowIn.mono (by assumption) (by walk_at "nz:sub")))
local macro_rules | `(tactic| walk_at "nz:p") => `(tactic| (first | with_reducible assumption | k_mem | walk_at "nz:row1" | walk_at "nz:bank" | exact .nil | assumption))
section

end
local macro_rules | `(tactic| walk_at "binaryOp FloorDiv int int") => `(tactic| (k_here; with_reducible refine floordiv_int (by omega) ?_ (Or.inl (noPy (by omega) (by omega)))))
local macro_rules | `(tactic| mul_fits) => `(tactic| assumption)
local macro_rules | `(tactic| walk_at "nz:ite") => `(tactic| (simp only [beq_iff_eq, bne_iff_ne, ne_eq, decide_eq_true_eq, List.length_cons, List.length_nil]) <;> first | with_reducible assumption | omega)
local macro_rules | `(tactic| walk_at "ite") => `(tactic| (k_here; k_openite; k_spoken; first | refine ite_neg (by walk_at "nz:ite") ?_ | refine ite_pos (by walk_at "nz:ite") ?_))
local macro_rules | `(tactic| k_mem) => `(tactic| ((repeat (first | with_reducible assumption | exact List.mem_cons_self | with_reducible refine List.mem_cons_of_mem _ ?_ | with_reducible refine List.mem_append_right _ ?_ | refine List.mem_cons_of_mem _ ?_ | refine List.mem_append_right _ ?_)); done))
local macro_rules | `(tactic| walk_at "exec For") => `(tactic| (k_here; (rename Fr _ _ _ _ => lF'); (with_unfolding_all refine' For_turns lF' ?_; k_whole)))
local macro_rules | `(tactic| walk_at "NzPost") => `(tactic| (refine post_next ?_))
local macro_rules | `(tactic| walk_at "eval ListComp") => `(tactic| (k_here; k_dflt (refine nz_ListComp (_F₀ := by k_asm) (by with_unfolding_all rfl) (by decide) (by rfl) (by decide) ?_)))
local macro_rules | `(tactic| walk_at "call type:tuple") => `(tactic| (k_here; (with_reducible show wpAny _ _ (call (Value.type _) [Value.ref _]) _ _ _); k_dflt (refine nz_tupleOf (by k_asm) (by k_asm) (by k_mem) (by assumption) ?_); intro D' h' F' N' l1; (try k_lt l1); (try k_sweep)))
local macro_rules | `(tactic| walk_at "call builtin:len") => `(tactic| (k_here; (with_reducible show wpAny _ _ (call (Value.builtin "len") [Value.ref _]) _ _ _); k_dflt (refine nz_lenT (by k_asm) (by k_mem) (by with_reducible assumption) ?_); (try dsimp only)))
local macro_rules | `(tactic| walk_at "subscriptTail") => `(tactic| (k_here; (with_reducible show wpAny _ _ (subscriptTail _ _ (Value.ref _) (Value.int _ _)) _ _ _); k_dflt (refine nz_itemT (by k_asm) (by k_mem) (by decide) (by decide) (by exact rfl) ?_); (try dsimp only)))
section
set_option maxHeartbeats 8000000 in
theorem gcd_spec {w : World} {mean : ExcName → Option Value} {mg mb : Str → Option Value} {news : Led} {x y : Int} {tx ty : Tok} : Spec w mean mg mb 79 1 news [.int x tx, .int y ty] (fun tl r => tl = [] ∧ ∃ g t, r = .int g t ∧ g = (Int.gcd x y : Int)) := by
  unfold Spec
  k_fill
  intro dp un gd cn cs a ccd cl outer A₀ base h₀ L m s Q E B F X N T hk hd hu hret
  k_with "exec While Compare cons nil" => k_while_given ["a!","b!"] (fun a₀ b₀ _ a b => 0 ≤ a ∧ 0 ≤ b ∧ Int.gcd a b = Int.gcd a₀ b₀) (fun a₀ b₀ _ a b => b.toNat) "a" "b"
  k_with "state" => (first | exact gcd_turn (by assumption) (by assumption) (by assumption) (by assumption) | (refine ⟨?_, ?_, rfl⟩ <;> (split <;> omega)))
  k_with "measure" => exact gcd_less (by assumption) (by assumption)
  refine wpAny_call ?_
  (k_dflt ktr_enter; (rename Fr _ _ _ _ => F8); refine fold_fr F8 ?_; clear F8; intro u8 F8)
  k_steps
  exact hret _ [] _ _ (by k_asm) (news_sub (by assumption) (fun p h => List.mem_cons_of_mem _ h)) ⟨rfl, _, _, rfl, gcd_end (by assumption) (by assumption) (by assumption)⟩
end
section
set_option maxHeartbeats 8000000 in
theorem lcm_spec {w : World} {mean : ExcName → Option Value} {mg mb : Str → Option Value} {news : Led} {x y : Int} {tx ty : Tok} (hy : 0 < y) (hy2 : y < 1152921504606846976) : Spec w mean mg mb 86 2 news [.int x tx, .int y ty] (fun tl r => tl = [] ∧ ∃ g t, r = .int g t ∧ g = (Int.lcm x y : Int)) := by
  unfold Spec
  k_fill
  intro dp un gd cn cs a ccd cl outer A₀ base h₀ L m s Q E B F X N T hk hd hu hret
  have hg0 := gcd_pos_right (n := x) hy
  have hg1 := gcd_le_right (n := x) hy
  have hab : (if y < 0 then -y else y) = y := if_neg (by omega)
  refine wpAny_call ?_
  (k_dflt ktr_enter; (rename Fr _ _ _ _ => F8); refine fold_fr F8 ?_; clear F8; intro u8 F8)
  (repeat' (first | (k_unfold; (try dsimp only)) | (k_end; wrow_close) | ((with_reducible show wpAny _ _ (call (Value.ref _) _) _ _ _); first | ((with_reducible show wpAny _ _ (call (Value.ref 79) _) _ _ _); walk_at "nz:int"; (· k_dflt (exact gcd_spec)); walk_at "nz:int2")) | walk1 | (dsimp only; walk1) | (leave1; (try dsimp only)) | fail "no step"))
  refine hret _ [] _ _ (by k_asm) (by k_asm) ⟨rfl, _, _, rfl, ?_⟩
  subst_vars
  rw [hab]
  exact lcm_val hy
end
section
set_option maxHeartbeats 8000000 in
theorem ratio_spec {w : World} {mean : ExcName → Option Value} {mg mb : Str → Option Value} {news : Led} {x y : Int} {tx ty : Tok} (hy : 0 < y) (hy2 : y < 1152921504606846976) : Spec w mean mg mb 93 2 news [.int x tx, .int y ty] (RtNew news (Rat.divInt x y)) := by
  unfold Spec
  k_fill
  intro dp un gd cn cs a ccd cl outer A₀ base h₀ L m s Q E B F X N T hk hd hu hret
  have hg0 := gcd_pos_right (n := x) hy
  have hg1 := gcd_le_right (n := x) hy
  refine wpAny_call ?_
  (k_dflt ktr_enter; (rename Fr _ _ _ _ => F8); refine fold_fr F8 ?_; clear F8; intro u8 F8)
  (repeat' (first | (k_unfold; (try dsimp only)) | (k_end; wrow_close) | ((with_reducible show wpAny _ _ (call (Value.ref _) _) _ _ _); first | ((with_reducible show wpAny _ _ (call (Value.ref 79) _) _ _ _); walk_at "nz:int"; (· k_dflt (exact gcd_spec)); walk_at "nz:int2")) | walk1 | (dsimp only; walk1) | (leave1; (try dsimp only)) | fail "no step"))
  refine hret _ [(_, tupO [.int _ _, .int _ _])] _ _ (by k_asm) (by k_asm) ?_
  exact rtNew_mk (by assumption) hy (by assumption)
end
section
set_option maxHeartbeats 8000000 in
theorem low_spec {w : World} {mean : ExcName → Option Value} {mg mb : Str → Option Value} {news : Led} {x y : Int} {tx ty : Tok} (hy : 0 < y) (hy2 : y < 1152921504606846976) : Spec w mean mg mb 612 1 news [.int x tx, .int y ty] (RtNew news (Rat.divInt x y)) := by
  unfold Spec
  k_fill
  intro dp un gd cn cs a ccd cl outer A₀ base h₀ L m s Q E B F X N T hk hd hu hret
  have hg0 := gcd_pos_right (n := x) hy
  have hg1 := gcd_le_right (n := x) hy
  k_with "exec While Compare cons nil" => k_while_given ["one!","other!"] (fun a₀ b₀ _ a b => 0 ≤ a ∧ 0 ≤ b ∧ Int.gcd a b = Int.gcd a₀ b₀ ∧ (b = 0 → 0 < a ∧ a < 1152921504606846976)) (fun a₀ b₀ _ a b => b.toNat) "one" "other"
  k_with "state" => (first | exact low_turn hy hy2 (by assumption) (by assumption) (by assumption) (by assumption) | exact low_start hy hy2)
  k_with "measure" => exact gcd_less (by assumption) (by assumption)
  refine wpAny_call ?_
  (k_dflt ktr_enter; (rename Fr _ _ _ _ => F8); refine fold_fr F8 ?_; clear F8; intro u8 F8)
  k_steps
  refine hret _ [(_, tupO [.int _ _, .int _ _])] _ _ (by k_asm) (news_sub (by assumption) (by repeat' first | exact sub_refl | with_reducible assumption | exact sub_nil | refine sub_cons (by k_mem) ?_ | refine sub_tail ?_ | exact sub_left | refine sub_app ?_ | refine sub_both ?_ ?_)) ?_
  exact rtNew_mk (gcd_end (by assumption) (by assumption) (by assumption)) hy (by first | assumption | exact ktn_ltOf (by assumption) | exact ktn_ltOf (And.right (by assumption)) | exact ktn_ltOf (And.right (And.right (by assumption))) | exact ktn_ltOf (And.right (And.right (And.right (by assumption)))))
end
section
set_option maxHeartbeats 8000000 in
theorem mul_spec {w : World} {mean : ExcName → Option Value} {mg mb : Str → Option Value} {news : Led} {a b : Addr} {ρ σ : Rat} {t u t' u' : Tok} (ha : (a, tupO [.int ρ.num t, .int (ρ.den : Int) u]) ∈ news) (hb : (b, tupO [.int σ.num t', .int (σ.den : Int) u']) ∈ news)
    (hm : IntMulOk ρ.num σ.num) (hm' : IntMulOk (ρ.den : Int) (σ.den : Int)) (hy2 : (ρ.den : Int) * (σ.den : Int) < 1152921504606846976) : Spec w mean mg mb 121 3 news [.ref a, .ref b] (RtNew news (ρ * σ)) := by
  unfold Spec
  k_fill
  intro dp un gd cn cs a ccd cl outer A₀ base h₀ L m s Q E B F X N T hk hd hu hret
  have hpos := dens_pos ρ σ
  refine wpAny_call ?_
  (k_dflt ktr_enter; (rename Fr _ _ _ _ => F8); refine fold_fr F8 ?_; clear F8; intro u8 F8)
  (repeat' (first | (k_unfold; (try dsimp only)) | (k_end; wrow_close) | ((with_reducible show wpAny _ _ (call (Value.ref _) _) _ _ _); first | ((with_reducible show wpAny _ _ (call (Value.ref 93) _) _ _ _); walk_at "nz:rt"; (· k_dflt (apply ratio_spec <;> omega)); walk_at "nz:rt2")) | walk1 | (dsimp only; walk1) | (leave1; (try dsimp only)) | fail "no step"))
  all_goals first
    | (refine hret _ [_] _ _ (by k_asm) (news_sub (by assumption) (by repeat' first | exact sub_refl | with_reducible assumption | exact sub_nil | refine sub_cons (by k_mem) ?_ | refine sub_tail ?_ | exact sub_left | refine sub_app ?_ | refine sub_both ?_ ?_)) ?_; exact rtNew_one (mul_one_val (by assumption) (by assumption)) (by first | assumption | exact ktn_ltOf (by assumption) | exact ktn_ltOf (And.right (by assumption)) | exact ktn_ltOf (And.right (And.right (by assumption))) | exact ktn_ltOf (And.right (And.right (And.right (by assumption))))))
    | (refine hret _ [_] _ _ (by k_asm) (news_sub (by assumption) (by repeat' first | exact sub_refl | with_reducible assumption | exact sub_nil | refine sub_cons (by k_mem) ?_ | refine sub_tail ?_ | exact sub_left | refine sub_app ?_ | refine sub_both ?_ ?_)) ?_; exact rtNew_re (mul_val ρ σ).symm (by first | assumption | exact ktn_ltOf (by assumption) | exact ktn_ltOf (And.right (by assumption)) | exact ktn_ltOf (And.right (And.right (by assumption))) | exact ktn_ltOf (And.right (And.right (And.right (by assumption))))))
end
section
set_option maxHeartbeats 8000000 in
theorem add_spec {w : World} {mean : ExcName → Option Value} {mg mb : Str → Option Value} {news : Led} {a b : Addr} {ρ σ : Rat} {t u t' u' : Tok} (ha : (a, tupO [.int ρ.num t, .int (ρ.den : Int) u]) ∈ news) (hb : (b, tupO [.int σ.num t', .int (σ.den : Int) u']) ∈ news)
    (h1 : (ρ.den : Int) = 1) (h2 : (σ.den : Int) = 1) : Spec w mean mg mb 100 1 news [.ref a, .ref b] (RtNew news (ρ + σ)) := by
  unfold Spec
  k_fill
  intro dp un gd cn cs a ccd cl outer A₀ base h₀ L m s Q E B F X N T hk hd hu hret
  refine wpAny_call ?_
  (k_dflt ktr_enter; (rename Fr _ _ _ _ => F8); refine fold_fr F8 ?_; clear F8; intro u8 F8)
  k_steps
  all_goals first
    | (refine hret _ [_] _ _ (by k_asm) (news_sub (by assumption) (by repeat' first | exact sub_refl | with_reducible assumption | exact sub_nil | refine sub_cons (by k_mem) ?_ | refine sub_tail ?_ | exact sub_left | refine sub_app ?_ | refine sub_both ?_ ?_)) ?_; exact rtNew_one (add_one_val (h1.trans h2.symm) h2) (by first | assumption | exact ktn_ltOf (by assumption) | exact ktn_ltOf (And.right (by assumption)) | exact ktn_ltOf (And.right (And.right (by assumption))) | exact ktn_ltOf (And.right (And.right (And.right (by assumption))))))
end
section
set_option maxHeartbeats 8000000 in
theorem neg_spec {w : World} {mean : ExcName → Option Value} {mg mb : Str → Option Value} {news : Led} {a : Addr} {ρ : Rat} {t u : Tok} (ha : (a, tupO [.int ρ.num t, .int (ρ.den : Int) u]) ∈ news) : Spec w mean mg mb 107 1 news [.ref a] (RtNew news (-ρ)) := by
  unfold Spec
  k_fill
  intro dp un gd cn cs a ccd cl outer A₀ base h₀ L m s Q E B F X N T hk hd hu hret
  refine wpAny_call ?_
  (k_dflt ktr_enter; (rename Fr _ _ _ _ => F8); refine fold_fr F8 ?_; clear F8; intro u8 F8)
  k_steps
  refine hret _ [_] _ _ (by k_asm) (news_sub (by assumption) (by repeat' first | exact sub_refl | with_reducible assumption | exact sub_nil | refine sub_cons (by k_mem) ?_ | refine sub_tail ?_ | exact sub_left | refine sub_app ?_ | refine sub_both ?_ ?_)) ?_
  exact rtNew_neg (by first | assumption | exact ktn_ltOf (by assumption) | exact ktn_ltOf (And.right (by assumption)) | exact ktn_ltOf (And.right (And.right (by assumption))) | exact ktn_ltOf (And.right (And.right (And.right (by assumption)))))
end
section
set_option maxHeartbeats 8000000 in
theorem sub_spec {w : World} {mean : ExcName → Option Value} {mg mb : Str → Option Value} {news : Led} {a b : Addr} {ρ σ : Rat} {t u t' u' : Tok} (ha : (a, tupO [.int ρ.num t, .int (ρ.den : Int) u]) ∈ news) (hb : (b, tupO [.int σ.num t', .int (σ.den : Int) u']) ∈ news)
    (h1 : (ρ.den : Int) = 1) (h2 : (σ.den : Int) = 1) : Spec w mean mg mb 114 2 news [.ref a, .ref b] (RtNew news (ρ - σ)) := by
  unfold Spec
  k_fill
  intro dp un gd cn cs a ccd cl outer A₀ base h₀ L m s Q E B F X N T hk hd hu hret
  have h3 : ((-σ).den : Int) = 1 := by rw [Rat.neg_den]; exact h2
  refine wpAny_call ?_
  (k_dflt ktr_enter; (rename Fr _ _ _ _ => F8); refine fold_fr F8 ?_; clear F8; intro u8 F8)
  (repeat' (first | (k_unfold; (try dsimp only)) | (k_end; wrow_close) | ((with_reducible show wpAny _ _ (call (Value.ref _) _) _ _ _); first | ((with_reducible show wpAny _ _ (call (Value.ref 107) _) _ _ _); walk_at "nz:rt"; (· k_dflt (apply neg_spec <;> walk_at "nz:p")); walk_at "nz:rt2") | ((with_reducible show wpAny _ _ (call (Value.ref 100) _) _ _ _); walk_at "nz:rt"; (· k_dflt (exact add_spec (by k_mem) (by k_mem) (by first | assumption | omega) (by first | assumption | omega))); walk_at "nz:rt2")) | walk1 | (dsimp only; walk1) | (leave1; (try dsimp only)) | fail "no step"))
  refine hret _ [_] _ _ (by k_asm) (news_sub (by assumption) (by repeat' first | exact sub_refl | with_reducible assumption | exact sub_nil | refine sub_cons (by k_mem) ?_ | refine sub_tail ?_ | exact sub_left | refine sub_app ?_ | refine sub_both ?_ ?_)) ?_
  exact rtNew_re (Rat.sub_eq_add_neg ρ σ).symm (by first | assumption | exact ktn_ltOf (by assumption) | exact ktn_ltOf (And.right (by assumption)) | exact ktn_ltOf (And.right (And.right (by assumption))) | exact ktn_ltOf (And.right (And.right (And.right (by assumption)))))
end
section
set_option maxHeartbeats 8000000 in
theorem compare_spec {w : World} {mean : ExcName → Option Value} {mg mb : Str → Option Value} {news : Led} {a b : Addr} {ρ σ : Rat} {t u t' u' : Tok} (ha : (a, tupO [.int ρ.num t, .int (ρ.den : Int) u]) ∈ news) (hb : (b, tupO [.int σ.num t', .int (σ.den : Int) u']) ∈ news)
    (hm : IntMulOk ρ.num (σ.den : Int)) (hm' : IntMulOk σ.num (ρ.den : Int)) : Spec w mean mg mb 128 1 news [.ref a, .ref b] (fun tl r => tl = [] ∧ ∃ g t, r = .int g t ∧ (g < 0 ↔ ρ < σ) ∧ (g = 0 ↔ ρ = σ)) := by
  unfold Spec
  k_fill
  intro dp un gd cn cs a ccd cl outer A₀ base h₀ L m s Q E B F X N T hk hd hu hret
  refine wpAny_call ?_
  (k_dflt ktr_enter; (rename Fr _ _ _ _ => F8); refine fold_fr F8 ?_; clear F8; intro u8 F8)
  k_steps
  exact hret _ [] _ _ (by k_asm) (news_sub (by assumption) (by repeat' first | exact sub_refl | with_reducible assumption | exact sub_nil | refine sub_cons (by k_mem) ?_ | refine sub_tail ?_ | exact sub_left | refine sub_app ?_ | refine sub_both ?_ ?_)) ⟨rfl, _, _, rfl, cmp_end ρ σ⟩
end
section
set_option maxHeartbeats 8000000 in
theorem floor_spec {w : World} {mean : ExcName → Option Value} {mg mb : Str → Option Value} {news : Led} {a : Addr} {ρ : Rat} {t u : Tok} (ha : (a, tupO [.int ρ.num t, .int (ρ.den : Int) u]) ∈ news) (hd2 : (ρ.den : Int) < 1152921504606846976) : Spec w mean mg mb 135 1 news [.ref a] (fun tl r => tl = [] ∧ ∃ g t, r = .int g t ∧ g = ρ.floor) := by
  unfold Spec
  k_fill
  intro dp un gd cn cs a ccd cl outer A₀ base h₀ L m s Q E B F X N T hk hd hu hret
  have hpos := den_pos ρ
  refine wpAny_call ?_
  (k_dflt ktr_enter; (rename Fr _ _ _ _ => F8); refine fold_fr F8 ?_; clear F8; intro u8 F8)
  k_steps
  exact hret _ [] _ _ (by k_asm) (news_sub (by assumption) (by repeat' first | exact sub_refl | with_reducible assumption | exact sub_nil | refine sub_cons (by k_mem) ?_ | refine sub_tail ?_ | exact sub_left | refine sub_app ?_ | refine sub_both ?_ ?_)) ⟨rfl, _, _, rfl, floor_val ρ⟩
end
section
set_option maxHeartbeats 8000000 in
theorem whole_spec {w : World} {mean : ExcName → Option Value} {mg mb : Str → Option Value} {news : Led} {a : Addr} {ρ : Rat} {t u : Tok} (ha : (a, tupO [.int ρ.num t, .int (ρ.den : Int) u]) ∈ news) : Spec w mean mg mb 142 1 news [.ref a] (fun tl r => tl = [] ∧ r = .bool ((ρ.den : Int) == 1)) := by
  unfold Spec
  k_fill
  intro dp un gd cn cs a ccd cl outer A₀ base h₀ L m s Q E B F X N T hk hd hu hret
  refine wpAny_call ?_
  (k_dflt ktr_enter; (rename Fr _ _ _ _ => F8); refine fold_fr F8 ?_; clear F8; intro u8 F8)
  k_steps
  exact hret _ [] _ _ (by k_asm) (news_sub (by assumption) (by repeat' first | exact sub_refl | with_reducible assumption | exact sub_nil | refine sub_cons (by k_mem) ?_ | refine sub_tail ?_ | exact sub_left | refine sub_app ?_ | refine sub_both ?_ ?_)) ⟨rfl, rfl⟩
end
section
set_option maxHeartbeats 8000000 in
theorem mulone_spec {w : World} {mean : ExcName → Option Value} {mg mb : Str → Option Value} {news : Led} {a : Addr} {ρ : Rat} {t u : Tok} (ha : (a, tupO [.int ρ.num t, .int (ρ.den : Int) u]) ∈ news) (hy2 : (ρ.den : Int) < 1152921504606846976) : Spec w mean mg mb 121 3 news [.ref a, .ref 71] (RtNew news (ρ * 1)) := by
  unfold Spec
  k_fill
  intro dp un gd cn cs a ccd cl outer A₀ base h₀ L m s Q E B F X N T hk hd hu hret
  have hpos := den_pos ρ
  refine wpAny_call ?_
  (k_dflt ktr_enter; (rename Fr _ _ _ _ => F8); refine fold_fr F8 ?_; clear F8; intro u8 F8)
  (repeat' (first | (k_unfold; (try dsimp only)) | (k_end; wrow_close) | ((with_reducible show wpAny _ _ (call (Value.ref _) _) _ _ _); first | ((with_reducible show wpAny _ _ (call (Value.ref 93) _) _ _ _); walk_at "nz:rt"; (· k_dflt (apply ratio_spec <;> omega)); walk_at "nz:rt2")) | walk1 | (dsimp only; walk1) | (leave1; (try dsimp only)) | fail "no step"))
  all_goals first
    | (refine hret _ [_] _ _ (by k_asm) (news_sub (by assumption) (by repeat' first | exact sub_refl | with_reducible assumption | exact sub_nil | refine sub_cons (by k_mem) ?_ | refine sub_tail ?_ | exact sub_left | refine sub_app ?_ | refine sub_both ?_ ?_)) ?_; exact rtNew_one (mul1_one (by assumption)) (by first | assumption | exact ktn_ltOf (by assumption) | exact ktn_ltOf (And.right (by assumption)) | exact ktn_ltOf (And.right (And.right (by assumption))) | exact ktn_ltOf (And.right (And.right (And.right (by assumption))))))
    | (refine hret _ [_] _ _ (by k_asm) (news_sub (by assumption) (by repeat' first | exact sub_refl | with_reducible assumption | exact sub_nil | refine sub_cons (by k_mem) ?_ | refine sub_tail ?_ | exact sub_left | refine sub_app ?_ | refine sub_both ?_ ?_)) ?_; exact rtNew_re (mul1_val ρ) (by first | assumption | exact ktn_ltOf (by assumption) | exact ktn_ltOf (And.right (by assumption)) | exact ktn_ltOf (And.right (And.right (by assumption))) | exact ktn_ltOf (And.right (And.right (And.right (by assumption))))))
end
section
set_option maxHeartbeats 8000000 in
theorem mulm_spec {w : World} {mean : ExcName → Option Value} {mg mb : Str → Option Value} {news : Led} {a : Addr} {ρ : Rat} {t u : Tok} (ha : (a, tupO [.int ρ.num t, .int (ρ.den : Int) u]) ∈ news) (hy2 : (ρ.den : Int) < 1152921504606846976) : Spec w mean mg mb 121 3 news [.ref a, .ref 72] (RtNew news (ρ * (-1))) := by
  unfold Spec
  k_fill
  intro dp un gd cn cs a ccd cl outer A₀ base h₀ L m s Q E B F X N T hk hd hu hret
  have hpos := den_pos ρ
  refine wpAny_call ?_
  (k_dflt ktr_enter; (rename Fr _ _ _ _ => F8); refine fold_fr F8 ?_; clear F8; intro u8 F8)
  (repeat' (first | (k_unfold; (try dsimp only)) | (k_end; wrow_close) | ((with_reducible show wpAny _ _ (call (Value.ref _) _) _ _ _); first | ((with_reducible show wpAny _ _ (call (Value.ref 93) _) _ _ _); walk_at "nz:rt"; (· k_dflt (apply ratio_spec <;> omega)); walk_at "nz:rt2")) | walk1 | (dsimp only; walk1) | (leave1; (try dsimp only)) | fail "no step"))
  all_goals first
    | (refine hret _ [_] _ _ (by k_asm) (news_sub (by assumption) (by repeat' first | exact sub_refl | with_reducible assumption | exact sub_nil | refine sub_cons (by k_mem) ?_ | refine sub_tail ?_ | exact sub_left | refine sub_app ?_ | refine sub_both ?_ ?_)) ?_; exact rtNew_one (mulm_one (by assumption)) (by first | assumption | exact ktn_ltOf (by assumption) | exact ktn_ltOf (And.right (by assumption)) | exact ktn_ltOf (And.right (And.right (by assumption))) | exact ktn_ltOf (And.right (And.right (And.right (by assumption))))))
    | (refine hret _ [_] _ _ (by k_asm) (news_sub (by assumption) (by repeat' first | exact sub_refl | with_reducible assumption | exact sub_nil | refine sub_cons (by k_mem) ?_ | refine sub_tail ?_ | exact sub_left | refine sub_app ?_ | refine sub_both ?_ ?_)) ?_; exact rtNew_re (mulm_val ρ) (by first | assumption | exact ktn_ltOf (by assumption) | exact ktn_ltOf (And.right (by assumption)) | exact ktn_ltOf (And.right (And.right (by assumption))) | exact ktn_ltOf (And.right (And.right (And.right (by assumption))))))
end
section
set_option maxHeartbeats 8000000 in
theorem negone_spec {w : World} {mean : ExcName → Option Value} {mg mb : Str → Option Value} {news : Led} : Spec w mean mg mb 107 1 news [.ref 71] (RtNew news (-1)) := by
  unfold Spec
  k_fill
  intro dp un gd cn cs a ccd cl outer A₀ base h₀ L m s Q E B F X N T hk hd hu hret
  refine wpAny_call ?_
  (k_dflt ktr_enter; (rename Fr _ _ _ _ => F8); refine fold_fr F8 ?_; clear F8; intro u8 F8)
  k_steps
  refine hret _ [_] _ _ (by k_asm) (news_sub (by assumption) (by repeat' first | exact sub_refl | with_reducible assumption | exact sub_nil | refine sub_cons (by k_mem) ?_ | refine sub_tail ?_ | exact sub_left | refine sub_app ?_ | refine sub_both ?_ ?_)) ?_
  exact rtNew_re (ρ' := -1) rfl (by first | assumption | exact ktn_ltOf (by assumption) | exact ktn_ltOf (And.right (by assumption)) | exact ktn_ltOf (And.right (And.right (by assumption))) | exact ktn_ltOf (And.right (And.right (And.right (by assumption)))))
end
section
set_option maxHeartbeats 8000000 in
theorem subone_spec {w : World} {mean : ExcName → Option Value} {mg mb : Str → Option Value} {news : Led} {a : Addr} {ρ : Rat} {t u : Tok} (ha : (a, tupO [.int ρ.num t, .int (ρ.den : Int) u]) ∈ news) (h1 : (ρ.den : Int) = 1) : Spec w mean mg mb 114 2 news [.ref a, .ref 71] (RtNew news (ρ - 1)) := by
  unfold Spec
  k_fill
  intro dp un gd cn cs a ccd cl outer A₀ base h₀ L m s Q E B F X N T hk hd hu hret
  have h3 : ((-1 : Rat).den : Int) = 1 := rfl
  refine wpAny_call ?_
  (k_dflt ktr_enter; (rename Fr _ _ _ _ => F8); refine fold_fr F8 ?_; clear F8; intro u8 F8)
  (repeat' (first | (k_unfold; (try dsimp only)) | (k_end; wrow_close) | ((with_reducible show wpAny _ _ (call (Value.ref _) _) _ _ _); first | ((with_reducible show wpAny _ _ (call (Value.ref 107) _) _ _ _); walk_at "nz:rt"; (· k_dflt (exact negone_spec)); walk_at "nz:rt2") | ((with_reducible show wpAny _ _ (call (Value.ref 100) _) _ _ _); walk_at "nz:rt"; (· k_dflt (exact add_spec (by k_mem) (by k_mem) (by first | assumption | omega) (by first | assumption | omega))); walk_at "nz:rt2")) | walk1 | (dsimp only; walk1) | (leave1; (try dsimp only)) | fail "no step"))
  refine hret _ [_] _ _ (by k_asm) (news_sub (by assumption) (by repeat' first | exact sub_refl | with_reducible assumption | exact sub_nil | refine sub_cons (by k_mem) ?_ | refine sub_tail ?_ | exact sub_left | refine sub_app ?_ | refine sub_both ?_ ?_)) ?_
  exact rtNew_re (Rat.sub_eq_add_neg ρ 1).symm (by first | assumption | exact ktn_ltOf (by assumption) | exact ktn_ltOf (And.right (by assumption)) | exact ktn_ltOf (And.right (And.right (by assumption))) | exact ktn_ltOf (And.right (And.right (And.right (by assumption)))))
end
section
set_option maxHeartbeats 8000000 in
theorem comparezero_spec {w : World} {mean : ExcName → Option Value} {mg mb : Str → Option Value} {news : Led} {b : Addr} {σ : Rat} {t' u' : Tok} (hb : (b, tupO [.int σ.num t', .int (σ.den : Int) u']) ∈ news) : Spec w mean mg mb 128 1 news [.ref 70, .ref b] (fun tl r => tl = [] ∧ ∃ g t, r = .int g t ∧ (g < 0 ↔ 0 < σ) ∧ (g = 0 ↔ 0 = σ)) := by
  unfold Spec
  k_fill
  intro dp un gd cn cs a ccd cl outer A₀ base h₀ L m s Q E B F X N T hk hd hu hret
  have hpos := den_pos σ
  refine wpAny_call ?_
  (k_dflt ktr_enter; (rename Fr _ _ _ _ => F8); refine fold_fr F8 ?_; clear F8; intro u8 F8)
  k_steps
  exact hret _ [] _ _ (by k_asm) (news_sub (by assumption) (by repeat' first | exact sub_refl | with_reducible assumption | exact sub_nil | refine sub_cons (by k_mem) ?_ | refine sub_tail ?_ | exact sub_left | refine sub_app ?_ | refine sub_both ?_ ?_)) ⟨rfl, _, _, rfl, cmp_end 0 σ⟩
end
section
def wfC (ts : List (Int × Rat)) : Int := ts.foldl (fun c t => (Int.lcm c (t.2.den : Int) : Int)) 1
def wfS (ts : List (Int × Rat)) (C : Int) : Int := ts.foldl (fun s t => (Int.gcd s (t.2.num * C.fdiv (t.2.den : Int)) : Int)) 0
def wf (ts : List (Int × Rat)) : Rat := Rat.divInt (wfC ts) (wfS ts (wfC ts))
theorem wfC_snoc (l : List (Int × Rat)) (x : Int × Rat) : wfC (l ++ [x]) = (Int.lcm (wfC l) (x.2.den : Int) : Int) := by simp [wfC]
theorem wfS_snoc (l : List (Int × Rat)) (x : Int × Rat) (C : Int) : wfS (l ++ [x]) C = (Int.gcd (wfS l C) (x.2.num * C.fdiv (x.2.den : Int)) : Int) := by simp [wfS]
def wfF (ts : List (Int × Rat)) : Rat := if ts = [] then 1 else wf ts
def scaleT (φ : Rat) (t : Int × Rat) : Int × Rat := (t.1, t.2 * φ)
def Row.scaled (row : Row) (φ : Rat) : Row := ⟨row.ts.map (scaleT φ), row.rel, row.b * φ⟩
def Row.norm (row : Row) : Row := row.scaled (wfF row.ts)
/-- the bounds that the walk asks of a row -/
structure RowOk (row : Row) : Prop where
  len : row.ts.length ≤ 1000
  den : ∀ t ∈ row.ts, (t.2.den : Int) < 1152921504606846976
  num : ∀ t ∈ row.ts, -1152921504606846976 < t.2.num ∧ t.2.num < 1152921504606846976
  bnum : -1152921504606846976 < row.b.num ∧ row.b.num < 1152921504606846976
  bden : (row.b.den : Int) < 1152921504606846976
  S : row.ts ≠ [] → 0 < wfS row.ts (wfC row.ts) ∧ wfS row.ts (wfC row.ts) < 1152921504606846976
  fden : ∀ t ∈ row.ts, (t.2.den : Int) * ((wfF row.ts).den : Int) < 1152921504606846976
  fbden : (row.b.den : Int) * ((wfF row.ts).den : Int) < 1152921504606846976
  nden : ∀ t ∈ row.norm.ts, (t.2.den : Int) < 1152921504606846976
  nbden : (row.norm.b.den : Int) < 1152921504606846976
set_option maxHeartbeats 8000000 in
theorem wf_spec {w : World} {mean : ExcName → Option Value} {mg mb : Str → Option Value} {news : Led} {a : Addr} {row : Row} (hr : RowIn news (.ref a) row) (hden : ∀ t ∈ row.ts, (t.2.den : Int) < 1152921504606846976) (hnum : ∀ t ∈ row.ts, -1152921504606846976 < t.2.num ∧ t.2.num < 1152921504606846976)
    (hS : row.ts ≠ [] → 0 < wfS row.ts (wfC row.ts) ∧ wfS row.ts (wfC row.ts) < 1152921504606846976) :
    Spec w mean mg mb 563 4 news [.ref a] (fun tl r => (row.ts = [] ∧ tl = [] ∧ r = .ref 71) ∨ (row.ts ≠ [] ∧ RtNew news (wf row.ts) tl r)) := by
  unfold Spec
  k_fill
  intro dp un gd cn cs a ccd cl outer A₀ base h₀ L m s Q E B F X N T hk hd hu hret
  refine hr.at fun _ _ _ _ _ _ hra hrt hts hrb => ?_
  refine wpAny_call ?_
  (k_dflt ktr_enter; (rename Fr _ _ _ _ => F8); refine fold_fr F8 ?_; clear F8; intro u8 F8)
  (repeat' (first | (k_unfold; (try dsimp only)) | (k_end; wrow_close) | ((with_reducible show wpAny _ _ (call (Value.ref _) _) _ _ _); first | ((with_reducible show wpAny _ _ (call (Value.ref 93) _) _ _ _); walk_at "nz:rt"; (· k_dflt (apply ratio_spec <;> omega)); walk_at "nz:rt2") | ((with_reducible show wpAny _ _ (call (Value.ref 86) _) _ _ _); walk_at "nz:int"; (· k_dflt (apply lcm_spec <;> omega)); walk_at "nz:int2") | ((with_reducible show wpAny _ _ (call (Value.ref 79) _) _ _ _); walk_at "nz:int"; (· k_dflt (exact gcd_spec)); walk_at "nz:int2")) | walk1 | (dsimp only; walk1) | (leave1; (try dsimp only)) | fail "no step"))
  (rename Fr _ _ _ _ => F1); (rename News _ _ _ _ => N1)
  refine for_tup F1 N1 (by k_mem) (fun _ => news) (fun c : Int × Tok => [(Str.ofString "common", .int c.1 c.2)]) [Str.ofString "term", Str.ofString "own"] (fun i c => c.1 = wfC (row.ts.take i)) (1, _) (by repeat' first | exact sub_refl | with_reducible assumption | exact sub_nil | refine sub_cons (by k_mem) ?_ | refine sub_tail ?_ | exact sub_left | refine sub_app ?_ | refine sub_both ?_ ?_) (List.forall_mem_cons.mpr ⟨rfl, List.forall_mem_nil _⟩) rfl ?_ ?_
  · intro i v c u h tk own wr hi hv hR hw hwo F2 N2
    clear F1 N1
    dsimp only [kstB] at F2 N2 hw hR
    revert v
    refine term_at hts fun _ kk _ _ ρ _ _ hx hm1 hm2 => ?_
    have hpos := den_pos ρ
    have hden2 := hden _ (mem_at hx)
    dsimp only at hden2
    (repeat' (first | (k_unfold; (try dsimp only)) | (k_end; wrow_close) | ((with_reducible show wpAny _ _ (call (Value.ref _) _) _ _ _); first | ((with_reducible show wpAny _ _ (call (Value.ref 93) _) _ _ _); walk_at "nz:rt"; (· k_dflt (apply ratio_spec <;> omega)); walk_at "nz:rt2") | ((with_reducible show wpAny _ _ (call (Value.ref 86) _) _ _ _); walk_at "nz:int"; (· k_dflt (apply lcm_spec <;> omega)); walk_at "nz:int2") | ((with_reducible show wpAny _ _ (call (Value.ref 79) _) _ _ _); walk_at "nz:int"; (· k_dflt (exact gcd_spec)); walk_at "nz:int2")) | walk1 | (dsimp only; walk1) | (leave1; (try dsimp only)) | fail "no step"))
    (rename Fr _ _ _ _ => F9)
    refine nz_end (_, _) F9 (by k_asm) (by repeat' first | exact sub_refl | with_reducible assumption | exact sub_nil | refine sub_cons (by k_mem) ?_ | refine sub_tail ?_ | exact sub_left | refine sub_app ?_ | refine sub_both ?_ ?_) (by repeat' first | exact sub_refl | with_reducible assumption | exact sub_nil | refine sub_cons (by k_mem) ?_ | refine sub_tail ?_ | exact sub_left | refine sub_app ?_ | refine sub_both ?_ ?_) hw (List.forall_mem_cons.mpr ⟨rfl, List.forall_mem_nil _⟩) (by ksw_same) ?_
    show _ = wfC _
    rw [take_snoc hx, wfC_snoc, ← hR]
    assumption
  · intro c u h tk hR F2 N2
    clear F1 N1
    rw [hts.length, List.take_length] at hR
    dsimp only [kstB] at F2 N2 hR
    (repeat' (first | (k_unfold; (try dsimp only)) | (k_end; wrow_close) | ((with_reducible show wpAny _ _ (call (Value.ref _) _) _ _ _); first | ((with_reducible show wpAny _ _ (call (Value.ref 93) _) _ _ _); walk_at "nz:rt"; (· k_dflt (apply ratio_spec <;> omega)); walk_at "nz:rt2") | ((with_reducible show wpAny _ _ (call (Value.ref 86) _) _ _ _); walk_at "nz:int"; (· k_dflt (apply lcm_spec <;> omega)); walk_at "nz:int2") | ((with_reducible show wpAny _ _ (call (Value.ref 79) _) _ _ _); walk_at "nz:int"; (· k_dflt (exact gcd_spec)); walk_at "nz:int2")) | walk1 | (dsimp only; walk1) | (leave1; (try dsimp only)) | fail "no step"))
    (rename Fr _ _ _ _ => F3); (rename News _ _ _ _ => N3)
    refine for_tup F3 N3 (by k_mem) (fun _ => news) (fun c : Int × Tok => [(Str.ofString "shared", .int c.1 c.2)]) [Str.ofString "term", Str.ofString "own"] (fun i d => d.1 = wfS (row.ts.take i) c.1) (0, _) (by repeat' first | exact sub_refl | with_reducible assumption | exact sub_nil | refine sub_cons (by k_mem) ?_ | refine sub_tail ?_ | exact sub_left | refine sub_app ?_ | refine sub_both ?_ ?_) (List.forall_mem_cons.mpr ⟨rfl, List.forall_mem_nil _⟩) rfl ?_ ?_
    · intro i v d u h tk own wr hi hv hQ hw hwo F4 N4
      clear F3 N3
      dsimp only [kstB] at F4 N4 hw hQ
      revert v
      refine term_at hts fun _ kk _ _ ρ _ _ hx hm1 hm2 => ?_
      have hpos := den_pos ρ
      have hden2 := hden _ (mem_at hx)
      have hnum2 := hnum _ (mem_at hx)
      dsimp only at hden2 hnum2
      (repeat' (first | (k_unfold; (try dsimp only)) | (k_end; wrow_close) | ((with_reducible show wpAny _ _ (call (Value.ref _) _) _ _ _); first | ((with_reducible show wpAny _ _ (call (Value.ref 93) _) _ _ _); walk_at "nz:rt"; (· k_dflt (apply ratio_spec <;> omega)); walk_at "nz:rt2") | ((with_reducible show wpAny _ _ (call (Value.ref 86) _) _ _ _); walk_at "nz:int"; (· k_dflt (apply lcm_spec <;> omega)); walk_at "nz:int2") | ((with_reducible show wpAny _ _ (call (Value.ref 79) _) _ _ _); walk_at "nz:int"; (· k_dflt (exact gcd_spec)); walk_at "nz:int2")) | walk1 | (dsimp only; walk1) | (leave1; (try dsimp only)) | fail "no step"))
      (rename Fr _ _ _ _ => F9)
      refine nz_end (_, _) F9 (by k_asm) (by repeat' first | exact sub_refl | with_reducible assumption | exact sub_nil | refine sub_cons (by k_mem) ?_ | refine sub_tail ?_ | exact sub_left | refine sub_app ?_ | refine sub_both ?_ ?_) (by repeat' first | exact sub_refl | with_reducible assumption | exact sub_nil | refine sub_cons (by k_mem) ?_ | refine sub_tail ?_ | exact sub_left | refine sub_app ?_ | refine sub_both ?_ ?_) hw (List.forall_mem_cons.mpr ⟨rfl, List.forall_mem_nil _⟩) (by ksw_same) ?_
      show _ = wfS _ _
      rw [take_snoc hx, wfS_snoc, ← hQ]
      assumption
    · intro d u h tk hQ F4 N4
      clear F3 N3
      rw [hts.length, List.take_length, hR] at hQ
      dsimp only [kstB] at F4 N4 hQ
      by_cases hz : row.ts = []
      · have hd0 : d.1 = 0 := by rw [hQ, hz]; rfl
        (repeat' (first | (k_unfold; (try dsimp only)) | (k_end; wrow_close) | ((with_reducible show wpAny _ _ (call (Value.ref _) _) _ _ _); first | ((with_reducible show wpAny _ _ (call (Value.ref 93) _) _ _ _); walk_at "nz:rt"; (· k_dflt (apply ratio_spec <;> omega)); walk_at "nz:rt2") | ((with_reducible show wpAny _ _ (call (Value.ref 86) _) _ _ _); walk_at "nz:int"; (· k_dflt (apply lcm_spec <;> omega)); walk_at "nz:int2") | ((with_reducible show wpAny _ _ (call (Value.ref 79) _) _ _ _); walk_at "nz:int"; (· k_dflt (exact gcd_spec)); walk_at "nz:int2")) | walk1 | (dsimp only; walk1) | (leave1; (try dsimp only)) | fail "no step"))
        exact hret _ [] _ _ (by k_asm) (news_sub (by assumption) (by repeat' first | exact sub_refl | with_reducible assumption | exact sub_nil | refine sub_cons (by k_mem) ?_ | refine sub_tail ?_ | exact sub_left | refine sub_app ?_ | refine sub_both ?_ ?_)) (.inl ⟨hz, rfl, rfl⟩)
      · have hd0 := hS hz
        rw [← hQ] at hd0
        (repeat' (first | (k_unfold; (try dsimp only)) | (k_end; wrow_close) | ((with_reducible show wpAny _ _ (call (Value.ref _) _) _ _ _); first | ((with_reducible show wpAny _ _ (call (Value.ref 93) _) _ _ _); walk_at "nz:rt"; (· k_dflt (apply ratio_spec <;> omega)); walk_at "nz:rt2") | ((with_reducible show wpAny _ _ (call (Value.ref 86) _) _ _ _); walk_at "nz:int"; (· k_dflt (apply lcm_spec <;> omega)); walk_at "nz:int2") | ((with_reducible show wpAny _ _ (call (Value.ref 79) _) _ _ _); walk_at "nz:int"; (· k_dflt (exact gcd_spec)); walk_at "nz:int2")) | walk1 | (dsimp only; walk1) | (leave1; (try dsimp only)) | fail "no step"))
        refine hret _ [_] _ _ (by k_asm) (news_sub (by assumption) (by repeat' first | exact sub_refl | with_reducible assumption | exact sub_nil | refine sub_cons (by k_mem) ?_ | refine sub_tail ?_ | exact sub_left | refine sub_app ?_ | refine sub_both ?_ ?_)) (.inr ⟨hz, ?_⟩)
        exact rtNew_re (by rw [hR, hQ]; rfl) (by first | assumption | exact ktn_ltOf (by assumption) | exact ktn_ltOf (And.right (by assumption)) | exact ktn_ltOf (And.right (And.right (by assumption))) | exact ktn_ltOf (And.right (And.right (And.right (by assumption)))))
end
section
/-- a factor that mul takes -/
def FacIn (w : World) (mean : ExcName → Option Value) (mg mb : Str → Option Value) (news : Led) (v : Value) (φ : Rat) : Prop :=
  ∀ {news' : Led} {a : Addr} {ρ : Rat} {t u : Tok}, (∀ p ∈ news, p ∈ news') → (a, tupO [.int ρ.num t, .int (ρ.den : Int) u]) ∈ news' → IntMulOk ρ.num φ.num → IntMulOk (ρ.den : Int) (φ.den : Int) → (ρ.den : Int) * (φ.den : Int) < 1152921504606846976 →
    Spec w mean mg mb 121 3 news' [.ref a, v] (RtNew news' (ρ * φ))
theorem fac_led {w : World} {mean : ExcName → Option Value} {mg mb : Str → Option Value} {news : Led} {b : Addr} {φ : Rat} {t' u' : Tok} (hb : (b, tupO [.int φ.num t', .int (φ.den : Int) u']) ∈ news) : FacIn w mean mg mb news (.ref b) φ := fun hs ha h1 h2 h3 => mul_spec ha (hs _ hb) h1 h2 h3
theorem fac_one {w : World} {mean : ExcName → Option Value} {mg mb : Str → Option Value} {news : Led} : FacIn w mean mg mb news (.ref 71) 1 := fun hs ha h1 h2 h3 => mulone_spec ha (by
  have e : ((1 : Rat).den : Int) = 1 := rfl
  rw [e, Int.mul_one] at h3; exact h3)
theorem fac_m {w : World} {mean : ExcName → Option Value} {mg mb : Str → Option Value} {news : Led} : FacIn w mean mg mb news (.ref 72) (-1) := fun hs ha h1 h2 h3 => mulm_spec ha (by
  have e : ((-1 : Rat).den : Int) = 1 := rfl
  rw [e, Int.mul_one] at h3; exact h3)
theorem fac_use {w : World} {mean : ExcName → Option Value} {mg mb : Str → Option Value} {news : Led} {news' : Led} {v : Value} {φ : Rat} (H : FacIn w mean mg mb news v φ) (hs : ∀ p ∈ news, p ∈ news') {a : Addr} {ρ : Rat} {t u : Tok} (ha : (a, tupO [.int ρ.num t, .int (ρ.den : Int) u]) ∈ news') (h1 : IntMulOk ρ.num φ.num) (h2 : IntMulOk (ρ.den : Int) (φ.den : Int)) (h3 : (ρ.den : Int) * (φ.den : Int) < 1152921504606846976) :
    Spec w mean mg mb 121 3 news' [.ref a, v] (RtNew news' (ρ * φ)) := H hs ha h1 h2 h3
set_option maxHeartbeats 8000000 in
theorem scaled_spec {w : World} {mean : ExcName → Option Value} {mg mb : Str → Option Value} {news : Led} {a : Addr} {v : Value} {φ : Rat} {row : Row} (hr : RowIn news (.ref a) row) (hf : FacIn w mean mg mb news v φ)
    (hT : ∀ t ∈ row.ts, IntMulOk t.2.num φ.num ∧ IntMulOk (t.2.den : Int) (φ.den : Int) ∧ (t.2.den : Int) * (φ.den : Int) < 1152921504606846976) (hb1 : IntMulOk row.b.num φ.num) (hb2 : IntMulOk (row.b.den : Int) (φ.den : Int)) (hb3 : (row.b.den : Int) * (φ.den : Int) < 1152921504606846976) (hlen : row.ts.length ≤ 1000) :
    Spec w mean mg mb 556 4 news [.ref a, v] (fun tl r => RowIn (tl ++ news) r (row.scaled φ)) := by
  unfold Spec
  k_fill
  intro dp un gd cn cs a ccd cl outer A₀ base h₀ L m s Q E B F X N T hk hd hu hret
  refine hr.at fun _ _ _ _ _ _ hra hrt hts hrb => ?_
  refine wpAny_call ?_
  k_dflt (refine' code_defC ?k1 ?k2 ?k3 ?k4 ?k5 ?kA ?kF ?kK ?k6 ?k7 ?k8 ?k9 ?kB ?kD ?_ ?c2 ?c3 ?c4; (case kA => exact rfl); (case kF => exact rfl); (case kK => assumption); (case k1 => k_asm); (case k2 => k_asm); (case k3 => k_asm); (case k4 => k_asm); (case k5 => k_asm); (case k6 => k_is); (case k7 => k_is); (case k8 => ktr_room); (case k9 => exact BindsTo.of_eq rfl); (case kB => exact rfl); (case kD => decide +kernel); (case c2 => exact rfl); (case c3 => exact rfl); (case c4 => exact rfl); k_whole; intro g' L' h' tk' cells' FG' F' N' Y' B' X' T' l1; (try k_lt l1); k_cells Y'; (try simp only [List.cons_append, List.nil_append] at N'); (try dsimp only); (try k_fold); refine fold_fr F' ?_; clear F'; intro u8 F')
  (repeat' (first | (k_unfold; (try dsimp only)) | (k_end; wrow_close) | ((with_reducible show wpAny _ _ (call (Value.ref _) _) _ _ _); first | (walk_at "nz:rt"; (· k_dflt (exact fac_use (by assumption) (by walk_at "nz:sub") (by k_mem) (by assumption) (by assumption) (by assumption))); walk_at "nz:rt2") | ((with_reducible show wpAny _ _ (call (Value.ref 563) _) _ _ _); walk_at "nz:wf"; (· k_dflt (exact wf_spec (by walk_at "nz:row1") (by exact RowOk.den (by assumption)) (by exact RowOk.num (by assumption)) (by exact RowOk.S (by assumption)))); walk_at "nz:wf2") | ((with_reducible show wpAny _ _ (call (Value.ref 121) _) _ _ _); walk_at "nz:rt"; (· k_dflt (exact mulm_spec (by k_mem) (by first | assumption | omega))); walk_at "nz:rt2") | ((with_reducible show wpAny _ _ (call (Value.ref 121) _) _ _ _); walk_at "nz:rt"; (· k_dflt (exact mulone_spec (by k_mem) (by first | assumption | omega))); walk_at "nz:rt2") | ((with_reducible show wpAny _ _ (call (Value.ref 121) _) _ _ _); walk_at "nz:rt"; (· k_dflt (exact mul_spec (by k_mem) (by k_mem) (by first | assumption | mul_fits) (by first | assumption | mul_fits) (by assumption))); walk_at "nz:rt2")) | walk1 | (dsimp only; walk1) | (leave1; (try dsimp only)) | fail "no step"))
  have hsz : ∀ {vs : List Value}, All2 (TermIn news) vs row.ts → vs.length ≤ sizeLine := fun h => by rw [h.length]; exact Nat.le_trans hlen (by decide)
  (rename Fr _ _ _ _ => F1); (rename News _ _ _ _ => N1)
  refine comp_tup F1 N1 (by k_mem) (hsz hts) (base := news) (binds_pair rfl rfl rfl rfl (by decide) (fun i v h hv N => pairs_terms hts hv N)) (fun i ys nx => All2 (TermIn nx) ys ((row.ts.take i).map (scaleT φ))) .nil (by repeat' first | exact sub_refl | with_reducible assumption | exact sub_nil | refine sub_cons (by k_mem) ?_ | refine sub_tail ?_ | exact sub_left | refine sub_app ?_ | refine sub_both ?_ ?_) ?_ ?_
  · intro i v ys nx own wr C oC D m₂ h tk E' hi hBd hC hJ hyl F2 N2 off hwo
    refine bd_terms hBd fun k t r ρ u u' hma hmb hx hm => ?_
    obtain ⟨hs, hK⟩ := hJ
    clear F1 N1
    have hcell := hs _ List.mem_cons_self
    have hm' := hs _ (List.mem_cons_of_mem _ hm)
    have hq := hT _ (mem_at hx)
    dsimp only at hq
    obtain ⟨hq1, hq2, hq3⟩ := hq
    have hsn : ∀ p ∈ news, p ∈ nx := fun p hp => hs p (List.mem_cons_of_mem _ hp)
    refine tests_nil ?_
    (repeat' (first | (k_unfold; (try dsimp only)) | (k_end; wrow_close) | ((with_reducible show wpAny _ _ (call (Value.ref _) _) _ _ _); first | (walk_at "nz:rt"; (· k_dflt (exact fac_use (by assumption) (by walk_at "nz:sub") (by k_mem) (by assumption) (by assumption) (by assumption))); walk_at "nz:rt2") | ((with_reducible show wpAny _ _ (call (Value.ref 563) _) _ _ _); walk_at "nz:wf"; (· k_dflt (exact wf_spec (by walk_at "nz:row1") (by exact RowOk.den (by assumption)) (by exact RowOk.num (by assumption)) (by exact RowOk.S (by assumption)))); walk_at "nz:wf2") | ((with_reducible show wpAny _ _ (call (Value.ref 121) _) _ _ _); walk_at "nz:rt"; (· k_dflt (exact mulm_spec (by k_mem) (by first | assumption | omega))); walk_at "nz:rt2") | ((with_reducible show wpAny _ _ (call (Value.ref 121) _) _ _ _); walk_at "nz:rt"; (· k_dflt (exact mulone_spec (by k_mem) (by first | assumption | omega))); walk_at "nz:rt2") | ((with_reducible show wpAny _ _ (call (Value.ref 121) _) _ _ _); walk_at "nz:rt"; (· k_dflt (exact mul_spec (by k_mem) (by k_mem) (by first | assumption | mul_fits) (by first | assumption | mul_fits) (by assumption))); walk_at "nz:rt2")) | walk1 | (dsimp only; walk1) | (leave1; (try dsimp only)) | fail "no step"))
    (rename Fr _ _ _ _ => F9); (rename News _ _ _ _ => N9)
    refine nz_cend2 F9 N9 (by with_reducible assumption) (by with_reducible assumption) hwo off ⟨(by repeat' first | exact sub_refl | with_reducible assumption | exact sub_nil | refine sub_cons (by k_mem) ?_ | refine sub_tail ?_ | exact sub_left | refine sub_app ?_ | refine sub_both ?_ ?_), ?_⟩
    rw [take_snoc hx, List.map_append]
    refine All2.snoc (TermIn.mk (ρ := ρ * φ) List.mem_cons_self (.mk (List.mem_cons_of_mem _ List.mem_cons_self))) (hK.imp fun _ _ k => k.mono (by repeat' first | exact sub_refl | with_reducible assumption | exact sub_nil | refine sub_cons (by k_mem) ?_ | refine sub_tail ?_ | exact sub_left | refine sub_app ?_ | refine sub_both ?_ ?_))
  · intro D h tk ys nx N2 hne hs hK F2
    clear F1 N1
    have hys : ys.length ≤ 1000 := by rw [hK.length, List.length_map, List.length_take]; omega
    rw [hts.length, List.take_length] at hK
    have hrb' := hs _ (List.mem_cons_of_mem _ hrb)
    have hcell := hs _ List.mem_cons_self
    have hsn : ∀ p ∈ news, p ∈ nx := fun p hp => hs p (List.mem_cons_of_mem _ hp)
    (repeat' (first | (k_unfold; (try dsimp only)) | (k_end; wrow_close) | ((with_reducible show wpAny _ _ (call (Value.ref _) _) _ _ _); first | (walk_at "nz:rt"; (· k_dflt (exact fac_use (by assumption) (by walk_at "nz:sub") (by k_mem) (by assumption) (by assumption) (by assumption))); walk_at "nz:rt2") | ((with_reducible show wpAny _ _ (call (Value.ref 563) _) _ _ _); walk_at "nz:wf"; (· k_dflt (exact wf_spec (by walk_at "nz:row1") (by exact RowOk.den (by assumption)) (by exact RowOk.num (by assumption)) (by exact RowOk.S (by assumption)))); walk_at "nz:wf2") | ((with_reducible show wpAny _ _ (call (Value.ref 121) _) _ _ _); walk_at "nz:rt"; (· k_dflt (exact mulm_spec (by k_mem) (by first | assumption | omega))); walk_at "nz:rt2") | ((with_reducible show wpAny _ _ (call (Value.ref 121) _) _ _ _); walk_at "nz:rt"; (· k_dflt (exact mulone_spec (by k_mem) (by first | assumption | omega))); walk_at "nz:rt2") | ((with_reducible show wpAny _ _ (call (Value.ref 121) _) _ _ _); walk_at "nz:rt"; (· k_dflt (exact mul_spec (by k_mem) (by k_mem) (by first | assumption | mul_fits) (by first | assumption | mul_fits) (by assumption))); walk_at "nz:rt2")) | walk1 | (dsimp only; walk1) | (leave1; (try dsimp only)) | fail "no step"))
    (rename News _ _ _ _ => N9)
    refine hret _ _ _ _ (by k_asm) (news_sub N9 (sub_both sub_refl (by repeat' first | exact sub_refl | with_reducible assumption | exact sub_nil | refine sub_cons (by k_mem) ?_ | refine sub_tail ?_ | exact sub_left | refine sub_app ?_ | refine sub_both ?_ ?_))) ?_
    exact (RowIn.mk (row := row.scaled φ) (by k_mem) (.mk (by k_mem) (hK.imp fun _ _ k => k.mono (by repeat' first | exact sub_refl | with_reducible assumption | exact sub_nil | refine sub_cons (by k_mem) ?_ | refine sub_tail ?_ | exact sub_left | refine sub_app ?_ | refine sub_both ?_ ?_))) (RtIn.mk (ρ := row.b * φ) (by k_mem))).mono sub_left
/-- what scaled_row asks -/
structure ScOk (row : Row) (φ : Rat) : Prop where
  t : ∀ t ∈ row.ts, IntMulOk t.2.num φ.num ∧ IntMulOk (t.2.den : Int) (φ.den : Int) ∧ (t.2.den : Int) * (φ.den : Int) < 1152921504606846976
  b1 : IntMulOk row.b.num φ.num
  b2 : IntMulOk (row.b.den : Int) (φ.den : Int)
  b3 : (row.b.den : Int) * (φ.den : Int) < 1152921504606846976
  len : row.ts.length ≤ 1000
theorem scaled_spec' {w : World} {mean : ExcName → Option Value} {mg mb : Str → Option Value} {news : Led} {a : Addr} {v : Value} {φ : Rat} {row : Row} (hr : RowIn news (.ref a) row) (hf : FacIn w mean mg mb news v φ) (ok : ScOk row φ) :
    Spec w mean mg mb 556 4 news [.ref a, v] (fun tl r => RowIn (tl ++ news) r (row.scaled φ)) := scaled_spec hr hf ok.t ok.b1 ok.b2 ok.b3 ok.len
theorem mulOk_left {a b : Int} (h : -1152921504606846976 < a ∧ a < 1152921504606846976) : IntMulOk a b := IntMulOk.of_left (intBits_le_64 (by omega) (by omega))
theorem mulOk_right {a b : Int} (h : -1152921504606846976 < b ∧ b < 1152921504606846976) : IntMulOk a b := IntMulOk.of_right (intBits_le_64 (by omega) (by omega))
theorem RowOk.sc {row : Row} (ok : RowOk row) (hz : row.ts ≠ []) : ScOk row (wf row.ts) where
  t := fun t ht => ⟨mulOk_left (ok.num t ht), mulOk_left ⟨by have := den_pos t.2; omega, ok.den t ht⟩, by have h := ok.fden t ht; rwa [wfF, if_neg hz] at h⟩
  b1 := mulOk_left ok.bnum
  b2 := mulOk_left ⟨by have := den_pos row.b; omega, ok.bden⟩
  b3 := by have h := ok.fbden; rwa [wfF, if_neg hz] at h
  len := ok.len
theorem RowOk.sc0 {row : Row} (ok : RowOk row) (hz : row.ts = []) : ScOk row 1 where
  t := by rw [hz]; exact fun _ h => nomatch h
  b1 := mulOk_left ok.bnum
  b2 := mulOk_left ⟨by have := den_pos row.b; omega, ok.bden⟩
  b3 := by have h := ok.fbden; rwa [wfF, if_pos hz] at h
  len := ok.len
theorem RowOk.norm_eq {row : Row} (hz : row.ts ≠ []) : row.scaled (wf row.ts) = row.norm := by rw [Row.norm, wfF, if_neg hz]
theorem RowOk.norm_eq0 {row : Row} (hz : row.ts = []) : row.scaled 1 = row.norm := by rw [Row.norm, wfF, if_pos hz]
theorem RowOk.scm {row : Row} (ok : RowOk row) : ScOk row.norm (-1) where
  t := fun t ht => ⟨mulOk_right (by decide), mulOk_right (by decide), by have h := ok.nden t ht; have e : ((-1 : Rat).den : Int) = 1 := rfl; rw [e, Int.mul_one]; exact h⟩
  b1 := mulOk_right (by decide)
  b2 := mulOk_right (by decide)
  b3 := by have h := ok.nbden; have e : ((-1 : Rat).den : Int) = 1 := rfl; rw [e, Int.mul_one]; exact h
  len := by rw [Row.norm, Row.scaled, List.length_map]; exact ok.len
theorem fac_one' {w : World} {mean : ExcName → Option Value} {mg mb : Str → Option Value} {news : Led} {ts : List (Int × Rat)} (hz : ts = []) : FacIn w mean mg mb news (.ref 71) (wfF ts) := by rw [wfF, if_pos hz]; exact fac_one
theorem fac_led' {w : World} {mean : ExcName → Option Value} {mg mb : Str → Option Value} {news : Led} {b : Addr} {ts : List (Int × Rat)} {t' u' : Tok} (hz : ts ≠ []) (hb : (b, tupO [.int (wf ts).num t', .int ((wf ts).den : Int) u']) ∈ news) : FacIn w mean mg mb news (.ref b) (wfF ts) := by rw [wfF, if_neg hz]; exact fac_led hb
theorem RowOk.scF {row : Row} (ok : RowOk row) : ScOk row (wfF row.ts) := by
  by_cases hz : row.ts = []
  · rw [wfF, if_pos hz]; exact ok.sc0 hz
  · rw [wfF, if_neg hz]; exact ok.sc hz
theorem scnorm_spec {w : World} {mean : ExcName → Option Value} {mg mb : Str → Option Value} {news : Led} {a : Addr} {v : Value} {row : Row} (hr : RowIn news (.ref a) row) (hf : FacIn w mean mg mb news v (wfF row.ts)) (ok : RowOk row) :
    Spec w mean mg mb 556 4 news [.ref a, v] (fun tl r => RowIn (tl ++ news) r row.norm) := scaled_spec' hr hf ok.scF
end
section
def Row.isNeg (f : Row) : Prop := f.rel = Str.ofString "=" ∧ match f.ts with | [] => False | t :: _ => t.2.num < 0
@[reducible] def isNegDec (f : Row) : Decidable f.isNeg := by unfold Row.isNeg; cases f.ts <;> infer_instance
def Row.whole (row : Row) : Row := @ite Row row.norm.isNeg (isNegDec row.norm) (row.norm.scaled (-1)) row.norm
theorem whole_eq_ne {row : Row} (h : (row.norm.rel == Str.ofString "=") = false) : row.whole = row.norm := by
  rw [Row.whole, if_neg]
  rintro ⟨e, _⟩
  rw [e] at h
  simp at h
theorem whole_eq_nil {row : Row} (h : row.norm.ts = []) : row.whole = row.norm := by
  rw [Row.whole, if_neg]
  rintro ⟨_, h'⟩
  rw [h] at h'
  exact h'
theorem whole_eq_pos {row : Row} {t : Int × Rat} {r : List (Int × Rat)} (h : row.norm.ts = t :: r) (hn : ¬ t.2.num < 0) : row.whole = row.norm := by
  rw [Row.whole, if_neg]
  rintro ⟨_, h'⟩
  rw [h] at h'
  exact hn h'
theorem whole_eq_neg {row : Row} {t : Int × Rat} {r : List (Int × Rat)} (e : (row.norm.rel == Str.ofString "=") = true) (h : row.norm.ts = t :: r) (hn : t.2.num < 0) : row.whole = row.norm.scaled (-1) := by
  rw [Row.whole, if_pos]
  refine ⟨eq_of_beq e, ?_⟩
  rw [h]
  exact hn
theorem nz_len_ok {R : Value → Int × Rat → Prop} {vs : List Value} {row : Row} (h : All2 R vs row.norm.ts) (ok : RowOk row) : vs.length ≤ 1000 := by
  rw [h.length, Row.norm, Row.scaled, List.length_map]
  exact ok.len
theorem wffac_spec {w : World} {mean : ExcName → Option Value} {mg mb : Str → Option Value} {news : Led} {a : Addr} {row : Row} (hr : RowIn news (.ref a) row) (ok : RowOk row) : Spec w mean mg mb 563 4 news [.ref a] (fun tl r => FacIn w mean mg mb (tl ++ news) r (wfF row.ts)) := by
  intro dp un gd cn cs a9 ccd cl outer A₀ base h₀ L m s Q E B F X N T hk hd hu hret
  refine wf_spec hr ok.den ok.num ok.S dp un gd cn cs a9 ccd cl outer A₀ base h₀ L m s Q E B F X N T hk hd hu fun r tl h' tk' F' N' hR => hret r tl h' tk' F' N' ?_
  rcases hR with ⟨hz, rfl, rfl⟩ | ⟨hz, a, t, u, rfl, rfl, _⟩
  · exact fac_one' hz
  · exact fac_led' hz List.mem_cons_self
set_option maxHeartbeats 8000000 in
theorem wholerow_spec {w : World} {mean : ExcName → Option Value} {mg mb : Str → Option Value} {news : Led} {a : Addr} {row : Row} (hr : RowIn news (.ref a) row) (ok : RowOk row) :
    Spec w mean mg mb 570 6 news [.ref a] (fun tl r => RowIn (tl ++ news) r row.whole) := by
  unfold Spec
  k_fill
  intro dp un gd cn cs a ccd cl outer A₀ base h₀ L m s Q E B F X N T hk hd hu hret
  refine wpAny_call ?_
  (k_dflt ktr_enter; (rename Fr _ _ _ _ => F8); refine fold_fr F8 ?_; clear F8; intro u8 F8)
  (repeat' (first | (k_unfold; (try dsimp only)) | (k_end; wrow_close) | ((with_reducible show wpAny _ _ (call (Value.ref _) _) _ _ _); first | ((with_reducible show wpAny _ _ (call (Value.ref 563) _) _ _ _); walk_at "nz:gen"; (· k_dflt (apply wffac_spec <;> walk_at "nz:p")); walk_at "nz:gen2") | ((with_reducible show wpAny _ _ (call (Value.ref 556) _) _ _ _); walk_at "nz:row"; (· k_dflt (exact scaled_spec' (by walk_at "nz:row1") (by first | assumption | exact fac_m | exact fac_led (by k_mem)) (by first | assumption | exact RowOk.scm (by assumption)))); walk_at "nz:row2") | ((with_reducible show wpAny _ _ (call (Value.ref 556) _) _ _ _); walk_at "nz:row"; (· k_dflt (exact scnorm_spec (by walk_at "nz:row1") (by first | with_reducible assumption | exact fac_one' (by assumption) | exact fac_led' (by assumption) (by k_mem)) (by assumption))); walk_at "nz:row2") | ((with_reducible show wpAny _ _ (call (Value.ref 563) _) _ _ _); walk_at "nz:wf"; (· k_dflt (exact wf_spec (by walk_at "nz:row1") (by exact RowOk.den (by assumption)) (by exact RowOk.num (by assumption)) (by exact RowOk.S (by assumption)))); walk_at "nz:wf2")) | walk1 | (dsimp only; walk1) | (leave1; (try dsimp only)) | fail "no step"))
  · (rename All2 _ _ _ => hall)
    have hl9 := nz_len_ok hall ok
    generalize hts : Row.ts (Row.norm row) = ts9 at hall
    rcases hall with _ | ⟨hv, hall⟩
    · (repeat' (first | (k_unfold; (try dsimp only)) | (k_end; wrow_close) | ((with_reducible show wpAny _ _ (call (Value.ref _) _) _ _ _); first | ((with_reducible show wpAny _ _ (call (Value.ref 563) _) _ _ _); walk_at "nz:gen"; (· k_dflt (apply wffac_spec <;> walk_at "nz:p")); walk_at "nz:gen2") | ((with_reducible show wpAny _ _ (call (Value.ref 556) _) _ _ _); walk_at "nz:row"; (· k_dflt (exact scaled_spec' (by walk_at "nz:row1") (by first | assumption | exact fac_m | exact fac_led (by k_mem)) (by first | assumption | exact RowOk.scm (by assumption)))); walk_at "nz:row2") | ((with_reducible show wpAny _ _ (call (Value.ref 556) _) _ _ _); walk_at "nz:row"; (· k_dflt (exact scnorm_spec (by walk_at "nz:row1") (by first | with_reducible assumption | exact fac_one' (by assumption) | exact fac_led' (by assumption) (by k_mem)) (by assumption))); walk_at "nz:row2") | ((with_reducible show wpAny _ _ (call (Value.ref 563) _) _ _ _); walk_at "nz:wf"; (· k_dflt (exact wf_spec (by walk_at "nz:row1") (by exact RowOk.den (by assumption)) (by exact RowOk.num (by assumption)) (by exact RowOk.S (by assumption)))); walk_at "nz:wf2")) | walk1 | (dsimp only; walk1) | (leave1; (try dsimp only)) | fail "no step"))
      ((rename News _ _ _ _ => N9); refine hret _ _ _ _ (by k_asm) (news_sub N9 (sub_both sub_refl (by repeat' first | exact sub_refl | with_reducible assumption | exact sub_nil | refine sub_cons (by k_mem) ?_ | refine sub_tail ?_ | exact sub_left | refine sub_app ?_ | refine sub_both ?_ ?_))) ?_)
      rw [whole_eq_nil hts]
      exact RowIn.mono (by with_reducible assumption) sub_left
    · rcases hv with ⟨hm1, hm2⟩
      rcases hm2 with ⟨hm2⟩
      (repeat' (first | (k_unfold; (try dsimp only)) | (k_end; wrow_close) | ((with_reducible show wpAny _ _ (call (Value.ref _) _) _ _ _); first | ((with_reducible show wpAny _ _ (call (Value.ref 563) _) _ _ _); walk_at "nz:gen"; (· k_dflt (apply wffac_spec <;> walk_at "nz:p")); walk_at "nz:gen2") | ((with_reducible show wpAny _ _ (call (Value.ref 556) _) _ _ _); walk_at "nz:row"; (· k_dflt (exact scaled_spec' (by walk_at "nz:row1") (by first | assumption | exact fac_m | exact fac_led (by k_mem)) (by first | assumption | exact RowOk.scm (by assumption)))); walk_at "nz:row2") | ((with_reducible show wpAny _ _ (call (Value.ref 556) _) _ _ _); walk_at "nz:row"; (· k_dflt (exact scnorm_spec (by walk_at "nz:row1") (by first | with_reducible assumption | exact fac_one' (by assumption) | exact fac_led' (by assumption) (by k_mem)) (by assumption))); walk_at "nz:row2") | ((with_reducible show wpAny _ _ (call (Value.ref 563) _) _ _ _); walk_at "nz:wf"; (· k_dflt (exact wf_spec (by walk_at "nz:row1") (by exact RowOk.den (by assumption)) (by exact RowOk.num (by assumption)) (by exact RowOk.S (by assumption)))); walk_at "nz:wf2")) | walk1 | (dsimp only; walk1) | (leave1; (try dsimp only)) | fail "no step"))
      · ((rename News _ _ _ _ => N9); refine hret _ _ _ _ (by k_asm) (news_sub N9 (sub_both sub_refl (by repeat' first | exact sub_refl | with_reducible assumption | exact sub_nil | refine sub_cons (by k_mem) ?_ | refine sub_tail ?_ | exact sub_left | refine sub_app ?_ | refine sub_both ?_ ?_))) ?_)
        rw [whole_eq_neg (by with_reducible assumption) hts (by with_reducible assumption)]
        exact RowIn.mono (by with_reducible assumption) sub_left
      · ((rename News _ _ _ _ => N9); refine hret _ _ _ _ (by k_asm) (news_sub N9 (sub_both sub_refl (by repeat' first | exact sub_refl | with_reducible assumption | exact sub_nil | refine sub_cons (by k_mem) ?_ | refine sub_tail ?_ | exact sub_left | refine sub_app ?_ | refine sub_both ?_ ?_))) ?_)
        rw [whole_eq_pos hts (by with_reducible assumption)]
        exact RowIn.mono (by with_reducible assumption) sub_left
  · ((rename News _ _ _ _ => N9); refine hret _ _ _ _ (by k_asm) (news_sub N9 (sub_both sub_refl (by repeat' first | exact sub_refl | with_reducible assumption | exact sub_nil | refine sub_cons (by k_mem) ?_ | refine sub_tail ?_ | exact sub_left | refine sub_app ?_ | refine sub_both ?_ ?_))) ?_)
    rw [whole_eq_ne (by with_reducible assumption)]
    exact RowIn.mono (by with_reducible assumption) sub_left
end
local macro_rules | `(tactic| walk_at "nz:fits") => `(tactic| (first | with_reducible assumption | omega | (simp only [List.length_append, List.length_cons, List.length_nil]; omega)))
local macro_rules | `(tactic| walk_at "call builtin:len") => `(tactic| (k_here; (with_reducible show wpAny _ _ (call (Value.builtin "len") [Value.ref _]) _ _ _); k_dflt (refine nz_lenL (by k_asm) (by k_mem) (by walk_at "nz:fits") ?_); (try dsimp only)))
section
def SpOk (n : Nat) (sp : Int) : Prop := 0 ≤ sp ∧ sp ≤ (n : Int)
theorem SpOk.succ {n : Nat} {sp : Int} (h : SpOk n sp) : SpOk (n + 1) (sp + 1) := ⟨Int.le_trans h.1 (Int.le_add_of_nonneg_right (by decide)), Int.add_le_add_right h.2 1⟩
set_option maxHeartbeats 8000000 in
theorem next_spec {w : World} {mean : ExcName → Option Value} {mg mb : Str → Option Value} {news : Led} {T C : Addr} {oT : Obj} {vs : List Value} {kk : Nat} {sp many : Int} {u tm : Tok} {g : Obj → Led} (U : UpdF T oT news g) (hO : TapeO PySem.Challenge.rw_nz0148_01.row.prog w oT C sp u) (hm : (T, oT) ∈ news)
    (hI : ∀ v ∈ vs, ∃ k t, v = Value.int k t) (hl : vs.length ≤ 63) {n : Nat} (hsp : SpOk n sp) (hn : n ≤ 900) (hm0 : 0 < many) (hm1 : many ≤ 100) (hCg : ∀ o' : Obj, (T, o') ∈ g o' ∧ (C, listOf vs.toArray kk) ∈ g o') :
    SpecU w mean mg mb 605 2 news [.ref T, .int many tm] (fun nx r => ∃ o' v t u' sp', nx = g o' ∧ TapeO PySem.Challenge.rw_nz0148_01.row.prog w o' C sp' u' ∧ r = .int v t ∧ 0 ≤ v ∧ v < many ∧ SpOk (n + 1) sp') := by
  unfold SpecU
  k_fill
  intro dp un gd cn cs a ccd cl outer A₀ base h₀ L m s Q E B F X N T hk hd hu hret
  obtain ⟨hD⟩ := hO
  have hsp' := hsp.succ
  have h0 := hsp.1
  have h1 : sp < 1000 := by have := hsp.2; omega
  clear hsp
  refine wpAny_call ?_
  (k_dflt ktr_enter; (rename Fr _ _ _ _ => F8); refine fold_fr F8 ?_; clear F8; intro u8 F8)
  (repeat' (first | (k_unfold; (try dsimp only)) | (k_end; wrow_close) | ((with_reducible show wpAny _ _ (subscriptTail _ _ (Value.ref _) (Value.str _ _)) _ _ _); k_dflt (refine kda_item (by k_asm) ?k2 (by with_reducible assumption) str_is (by exact rfl) ?_; (case k2 => k_mem)); (try dsimp only)) | ((with_reducible show wpAny _ _ (setItem (Value.ref _) (Value.str _ _) _) _ _ _); k_dflt (refine kda_set (by k_asm) (by k_asm) (by with_reducible assumption) (by with_reducible assumption) str_is (by exact (show 2 ≤ sizeLine by decide)) ?_); intro h' o' F' N' hD'; rw [stored_spot] at hD'; (try dsimp only); (have hCg9 := (by with_reducible assumption : ∀ _ : Obj, _) o'; obtain ⟨m1, m2⟩ := hCg9)) | walk1 | (dsimp only; walk1) | (leave1; (try dsimp only)) | fail "no step"))
  · obtain ⟨x, hx⟩ : ∃ x, vs[sp.toNat]? = some x := ⟨_, List.getElem?_eq_getElem (by omega)⟩
    obtain ⟨k, t, rfl⟩ := hI x (mem_at hx)
    refine nz_itemL (by k_asm) (by k_mem) h0 (by omega) hx ?_
    (repeat' (first | (k_unfold; (try dsimp only)) | (k_end; wrow_close) | ((with_reducible show wpAny _ _ (subscriptTail _ _ (Value.ref _) (Value.str _ _)) _ _ _); k_dflt (refine kda_item (by k_asm) ?k2 (by with_reducible assumption) str_is (by exact rfl) ?_; (case k2 => k_mem)); (try dsimp only)) | ((with_reducible show wpAny _ _ (setItem (Value.ref _) (Value.str _ _) _) _ _ _); k_dflt (refine kda_set (by k_asm) (by k_asm) (by with_reducible assumption) (by with_reducible assumption) str_is (by exact (show 2 ≤ sizeLine by decide)) ?_); intro h' o' F' N' hD'; rw [stored_spot] at hD'; (try dsimp only); (have hCg9 := (by with_reducible assumption : ∀ _ : Obj, _) o'; obtain ⟨m1, m2⟩ := hCg9)) | walk1 | (dsimp only; walk1) | (leave1; (try dsimp only)) | fail "no step"))
    exact hret _ _ _ _ (by k_asm) (by k_asm) ⟨_, _, _, _, _, rfl, ⟨by with_reducible assumption⟩, rfl, Int.fmod_nonneg_of_pos _ hm0, Int.fmod_lt_of_pos _ hm0, hsp'⟩
  · exact hret _ _ _ _ (by k_asm) (by k_asm) ⟨_, _, _, _, _, rfl, ⟨by with_reducible assumption⟩, rfl, Int.fmod_nonneg_of_pos _ hm0, Int.fmod_lt_of_pos _ hm0, hsp'⟩
section
variable {w : World} {mean : ExcName → Option Value} {mg mb : Str → Option Value} {news : Led} {dp un : Nat} {gd : Option (List Code)} {cn : Str} {cs : Scope} {a : Addr} {ccd : Value} {cl : List (Str × Addr)} {outer : List Env} {A₀ : Around} {base h₀ : Heap} {L : Addr} {m : Str → Option Value} {hh : Heap} {gg : Array GenState} {dd : Drawn} {TT : Nat} {oo : OsState} {Q E : Value → Shared → Prop}
theorem use_next {Tp C : Addr} {oT : Obj} {vs : List Value} {kk : Nat} {sp many : Int} {u tm : Tok} {g : Obj → Led} {n : Nat} (N : News h₀ L hh news) (B : Below A₀ base outer h₀) (F : Fr h₀ L hh m) (X : (pre.heap_1_39 w.params).In h₀) (T : Top pre.view_1_40 (looseW pre.view_1_40 []) mean mg mb h₀) (hk : cs.kind = .function)
    (hm : (Tp, oT) ∈ news) (hO : TapeO PySem.Challenge.rw_nz0148_01.row.prog w oT C sp u) (U : UpdF Tp oT news g) (hI : ∀ v ∈ vs, ∃ k t, v = Value.int k t) (hl : vs.length ≤ 63) (hsp : SpOk n sp) (hn : n ≤ 900) (hm0 : 0 < many) (hm1 : many ≤ 100) (hCg : ∀ o' : Obj, (Tp, o') ∈ g o' ∧ (C, listOf vs.toArray kk) ∈ g o')
    (hd : dp + 2 < recursionLimit) (hu : un + 8 * 2 < cLine)
    (ret : ∀ o' v t u' sp' h' tk', Fr h₀ L h' m → News h₀ L h' (g o') → TapeO PySem.Challenge.rw_nz0148_01.row.prog w o' C sp' u' → 0 ≤ v → v < many → SpOk (n + 1) sp' → Q (.int v t) ⟨h', gg, dd, tk', oo⟩) :
    wpAny (model PySem.Challenge.rw_nz0148_01.row.prog w) (ktrTop dp un gd cn cs L a ccd cl outer) (call (.ref 605) [.ref Tp, .int many tm]) Q E ⟨hh, gg, dd, TT, oo⟩ :=
  specU_use (next_spec U hO hm hI hl hsp hn hm0 hm1 hCg) B F X N T hk hd hu fun r nx h' tk' F' N' hR => by obtain ⟨o', v, t, u', sp', e1, hO', e2, h0, h1, hs⟩ := hR; subst e1; subst e2; exact ret o' v t u' sp' h' tk' F' N' hO' h0 h1 hs
end
end
section
/-- the bank, as its readers need it: of its attributes the list of sorts -/
inductive BankIn (w : World) (news : Led) : Value → List Int → Prop
  | mk {B d ls : Addr} {n kk : Nat} {vs : List Value} {srt : List Int} {t0 t1 t2 t3 t4 t5 t6 t7 t8 t9 t10 t11 t12 : Tok} {v0 v1 v2 v3 v4 v5 v6 v7 v9 v10 v11 v12 : Value} :
    (B, instObj 549 d) ∈ news →
    (d, dictOf [{ hash := PyData.keyHash w.params (Str.ofString "sort_names"), key := .str (Str.ofString "sort_names") t0, val := v0 }, { hash := PyData.keyHash w.params (Str.ofString "sort_widths"), key := .str (Str.ofString "sort_widths") t1, val := v1 }, { hash := PyData.keyHash w.params (Str.ofString "fun_names"), key := .str (Str.ofString "fun_names") t2, val := v2 }, { hash := PyData.keyHash w.params (Str.ofString "fun_args"), key := .str (Str.ofString "fun_args") t3, val := v3 }, { hash := PyData.keyHash w.params (Str.ofString "fun_results"), key := .str (Str.ofString "fun_results") t4, val := v4 }, { hash := PyData.keyHash w.params (Str.ofString "fresh_count"), key := .str (Str.ofString "fresh_count") t5, val := v5 }, { hash := PyData.keyHash w.params (Str.ofString "term_ops"), key := .str (Str.ofString "term_ops") t6, val := v6 }, { hash := PyData.keyHash w.params (Str.ofString "term_args"), key := .str (Str.ofString "term_args") t7, val := v7 }, { hash := PyData.keyHash w.params (Str.ofString "term_sorts"), key := .str (Str.ofString "term_sorts") t8, val := .ref ls }, { hash := PyData.keyHash w.params (Str.ofString "term_datas"), key := .str (Str.ofString "term_datas") t9, val := v9 }, { hash := PyData.keyHash w.params (Str.ofString "numbers"), key := .str (Str.ofString "numbers") t10, val := v10 }, { hash := PyData.keyHash w.params (Str.ofString "true_number"), key := .str (Str.ofString "true_number") t11, val := v11 }, { hash := PyData.keyHash w.params (Str.ofString "false_number"), key := .str (Str.ofString "false_number") t12, val := v12 }] n) ∈ news →
    (ls, listOf vs.toArray kk) ∈ news → All2 (fun v (i : Int) => ∃ t, v = Value.int i t) vs srt → BankIn w news (.ref B) srt
theorem BankIn.mono {w : World} {news news' : Led} {v : Value} {srt : List Int} (h : BankIn w news v srt) (hs : ∀ p ∈ news, p ∈ news') : BankIn w news' v srt := by
  cases h with | mk h1 h2 h3 h4 => exact .mk (hs _ h1) (hs _ h2) (hs _ h3) h4
set_option maxHeartbeats 8000000 in
theorem sort_spec {w : World} {mean : ExcName → Option Value} {mg mb : Str → Option Value} {news : Led} {bk : Value} {srt : List Int} {k : Int} {t : Tok} {x : Int} (hB : BankIn w news bk srt) (h0 : 0 ≤ k) (h1 : k < 1000) (hx : srt[k.toNat]? = some x) : Spec w mean mg mb 261 1 news [bk, .int k t] (fun tl r => tl = [] ∧ ∃ u, r = .int x u) := by
  unfold Spec
  k_fill
  intro dp un gd cn cs a ccd cl outer A₀ base h₀ L m s Q E B F X N T hk hd hu hret
  cases hB with | mk hB1 hB2 hB3 hB4 =>
  obtain ⟨v, hv, u, rfl⟩ := hB4.get' hx
  refine wpAny_call ?_
  (k_dflt ktr_enter; (rename Fr _ _ _ _ => F8); refine fold_fr F8 ?_; clear F8; intro u8 F8)
  k_steps
  refine nz_itemL (by k_asm) (by k_mem) h0 (by omega) hv ?_
  k_steps
  exact hret _ [] _ _ (by k_asm) (news_sub (by assumption) (by repeat' first | exact sub_refl | with_reducible assumption | exact sub_nil | refine sub_cons (by k_mem) ?_ | refine sub_tail ?_ | exact sub_left | refine sub_app ?_ | refine sub_both ?_ ?_)) ⟨rfl, _, rfl⟩
end
local macro_rules | `(tactic| walk_at "nz:bank") => `(tactic| (exact BankIn.mono (by assumption) (by walk_at "nz:sub")))
section
local macro_rules | `(tactic| walk_at "NzPost") => `(tactic| (refine post_ret ?_))
def wholeT (srt : List Int) (t : Int × Rat) : Bool := decide (srt[t.1.toNat]? = some 1) && decide (t.2.den = 1)
theorem not_ne {a b : Int} (h : ¬ a ≠ b) : a = b := by omega
theorem hw_true {srt : List Int} {k sx : Int} {ρ : Rat} (h0 : srt[k.toNat]? = some sx) (h1 : sx = 1) (h2 : (ρ.den : Int) = 1) : (true && [(k, ρ)].all (wholeT srt)) = true := by
  have h3 : ρ.den = 1 := by omega
  subst h1
  simp [wholeT, h0, h3]
theorem hw_false1 {srt : List Int} {ts : List (Int × Rat)} {i : Nat} {k sx : Int} {ρ : Rat} (hx : ts[i]? = some (k, ρ)) (h0 : srt[k.toNat]? = some sx) (h1 : sx ≠ 1) : ts.all (wholeT srt) = false := by
  rw [List.all_eq_false]
  exact ⟨_, mem_at hx, by simp [wholeT, h0, h1]⟩
theorem hw_false2 {srt : List Int} {ts : List (Int × Rat)} {i : Nat} {k : Int} {ρ : Rat} (hx : ts[i]? = some (k, ρ)) (h1 : (ρ.den : Int) ≠ 1) : ts.all (wholeT srt) = false := by
  have h3 : ρ.den ≠ 1 := by omega
  rw [List.all_eq_false]
  exact ⟨_, mem_at hx, by simp [wholeT, h3]⟩
set_option maxHeartbeats 8000000 in
theorem hw_spec {w : World} {mean : ExcName → Option Value} {mg mb : Str → Option Value} {news : Led} {a : Addr} {bk : Value} {row : Row} {srt : List Int} (hB : BankIn w news bk srt) (hr : RowIn news (.ref a) row) (hid : ∀ t ∈ row.ts, 0 ≤ t.1 ∧ t.1 < 1000 ∧ t.1.toNat < srt.length) :
    Spec w mean mg mb 577 4 news [bk, .ref a] (fun tl r => tl = [] ∧ r = .bool (row.ts.all (wholeT srt))) := by
  unfold Spec
  k_fill
  intro dp un gd cn cs a ccd cl outer A₀ base h₀ L m s Q E B F X N T hk hd hu hret
  refine hr.at fun _ _ _ _ _ _ hra hrt hts hrb => ?_
  cases hB with | mk hB1 hB2 hB3 hB4 =>
  refine wpAny_call ?_
  (k_dflt ktr_enter; (rename Fr _ _ _ _ => F8); refine fold_fr F8 ?_; clear F8; intro u8 F8)
  (repeat' (first | (k_unfold; (try dsimp only)) | (k_end; wrow_close) | ((with_reducible show wpAny _ _ (call (Value.ref _) _) _ _ _); first | ((with_reducible show wpAny _ _ (call (Value.ref 261) _) _ _ _); walk_at "nz:val"; (· k_dflt (apply sort_spec <;> walk_at "nz:p")); walk_at "nz:intx2") | ((with_reducible show wpAny _ _ (call (Value.ref 142) _) _ _ _); walk_at "nz:val"; (· k_dflt (apply whole_spec <;> walk_at "nz:p")); walk_at "nz:bool2")) | walk1 | (dsimp only; walk1) | (leave1; (try dsimp only)) | fail "no step"))
  (rename Fr _ _ _ _ => F1); (rename News _ _ _ _ => N1)
  refine for_tup F1 N1 (by k_mem) (fun _ => news) (fun c : Unit => []) [Str.ofString "term", Str.ofString "own"] (fun i c => (row.ts.take i).all (wholeT srt) = true) () (by repeat' first | exact sub_refl | with_reducible assumption | exact sub_nil | refine sub_cons (by k_mem) ?_ | refine sub_tail ?_ | exact sub_left | refine sub_app ?_ | refine sub_both ?_ ?_) (List.forall_mem_nil _) rfl ?_ ?_
  · intro i v c u h tk own wr hi hv hR hw hwo F2 N2
    clear F1 N1
    dsimp only [kstB] at F2 N2 hw hR
    revert v
    refine term_at hts fun _ kk _ _ ρ _ _ hx hm1 hm2 => ?_
    obtain ⟨hk0, hk1, hk2⟩ := hid _ (mem_at hx)
    dsimp only at hk0 hk1 hk2
    obtain ⟨sx, hsx⟩ : ∃ sx, srt[kk.toNat]? = some sx := ⟨_, List.getElem?_eq_getElem hk2⟩
    have hBk := BankIn.mk (w := w) hB1 hB2 hB3 hB4
    (repeat' (first | (k_unfold; (try dsimp only)) | (k_end; wrow_close) | ((with_reducible show wpAny _ _ (call (Value.ref _) _) _ _ _); first | ((with_reducible show wpAny _ _ (call (Value.ref 261) _) _ _ _); walk_at "nz:val"; (· k_dflt (apply sort_spec <;> walk_at "nz:p")); walk_at "nz:intx2") | ((with_reducible show wpAny _ _ (call (Value.ref 142) _) _ _ _); walk_at "nz:val"; (· k_dflt (apply whole_spec <;> walk_at "nz:p")); walk_at "nz:bool2")) | walk1 | (dsimp only; walk1) | (leave1; (try dsimp only)) | fail "no step"))
    · exact hret _ [] _ _ (by k_asm) (news_sub (by assumption) (by repeat' first | exact sub_refl | with_reducible assumption | exact sub_nil | refine sub_cons (by k_mem) ?_ | refine sub_tail ?_ | exact sub_left | refine sub_app ?_ | refine sub_both ?_ ?_)) ⟨rfl, by rw [hw_false1 hx hsx (by with_reducible assumption)]⟩
    · (rename Fr _ _ _ _ => F9)
      refine nz_end () F9 (by k_asm) (by repeat' first | exact sub_refl | with_reducible assumption | exact sub_nil | refine sub_cons (by k_mem) ?_ | refine sub_tail ?_ | exact sub_left | refine sub_app ?_ | refine sub_both ?_ ?_) (by repeat' first | exact sub_refl | with_reducible assumption | exact sub_nil | refine sub_cons (by k_mem) ?_ | refine sub_tail ?_ | exact sub_left | refine sub_app ?_ | refine sub_both ?_ ?_) hw (List.forall_mem_nil _) (by ksw_same) ?_
      show (row.ts.take (i + 1)).all _ = true
      rw [take_snoc hx, List.all_append, hR]
      exact hw_true hsx (by first | with_reducible assumption | exact not_ne (by with_reducible assumption)) (by with_reducible assumption)
    · exact hret _ [] _ _ (by k_asm) (news_sub (by assumption) (by repeat' first | exact sub_refl | with_reducible assumption | exact sub_nil | refine sub_cons (by k_mem) ?_ | refine sub_tail ?_ | exact sub_left | refine sub_app ?_ | refine sub_both ?_ ?_)) ⟨rfl, by rw [hw_false2 hx (by with_reducible assumption)]⟩
  · intro c u h tk hR F2 N2
    clear F1 N1
    rw [hts.length, List.take_length] at hR
    dsimp only [kstB] at F2 N2 hR
    (repeat' (first | (k_unfold; (try dsimp only)) | (k_end; wrow_close) | ((with_reducible show wpAny _ _ (call (Value.ref _) _) _ _ _); first | ((with_reducible show wpAny _ _ (call (Value.ref 261) _) _ _ _); walk_at "nz:val"; (· k_dflt (apply sort_spec <;> walk_at "nz:p")); walk_at "nz:intx2") | ((with_reducible show wpAny _ _ (call (Value.ref 142) _) _ _ _); walk_at "nz:val"; (· k_dflt (apply whole_spec <;> walk_at "nz:p")); walk_at "nz:bool2")) | walk1 | (dsimp only; walk1) | (leave1; (try dsimp only)) | fail "no step"))
    exact hret _ [] _ _ (by k_asm) (news_sub (by assumption) (by repeat' first | exact sub_refl | with_reducible assumption | exact sub_nil | refine sub_cons (by k_mem) ?_ | refine sub_tail ?_ | exact sub_left | refine sub_app ?_ | refine sub_both ?_ ?_)) ⟨rfl, by rw [hR]⟩
end
section
def truth (rel : Str) (b : Rat) : Bool := if rel = Str.ofString "=" then decide (0 = b) else decide (0 < b) || (decide (0 = b) && decide (rel = Str.ofString "<="))
theorem truth_e {rel : Str} {b : Rat} {g : Int} (h : (g < 0 ↔ 0 < b) ∧ (g = 0 ↔ 0 = b)) (hr : (rel == Str.ofString "=") = true) : truth rel b = (g == 0) := by
  rw [truth, if_pos (eq_of_beq hr), Bool.eq_iff_iff, decide_eq_true_iff, beq_iff_eq, h.2]
theorem truth_rest {rel : Str} {b : Rat} (hr : (rel == Str.ofString "=") = false) : truth rel b = (decide (0 < b) || (decide (0 = b) && decide (rel = Str.ofString "<="))) := by
  rw [truth, if_neg]
  intro e
  rw [e] at hr
  simp at hr
theorem truth_l {rel : Str} {b : Rat} {g : Int} (h : (g < 0 ↔ 0 < b) ∧ (g = 0 ↔ 0 = b)) (hr : (rel == Str.ofString "=") = false) (hg : g < 0) : truth rel b = decide (g < 0) := by
  rw [truth_rest hr, decide_eq_true (h.1.mp hg), decide_eq_true hg, Bool.true_or]
theorem truth_z {rel : Str} {b : Rat} {g : Int} (h : (g < 0 ↔ 0 < b) ∧ (g = 0 ↔ 0 = b)) (hr : (rel == Str.ofString "=") = false) (hg : ¬ g < 0) (hz : g = 0) : truth rel b = (rel == Str.ofString "<=") := by
  rw [truth_rest hr, decide_eq_false (fun x => hg (h.1.mpr x)), decide_eq_true (h.2.mp hz), Bool.false_or, Bool.true_and, Bool.eq_iff_iff, decide_eq_true_iff, beq_iff_eq]
theorem truth_g {rel : Str} {b : Rat} {g : Int} (h : (g < 0 ↔ 0 < b) ∧ (g = 0 ↔ 0 = b)) (hr : (rel == Str.ofString "=") = false) (hg : ¬ g < 0) (hz : g ≠ 0) : truth rel b = (g == 0) := by
  rw [truth_rest hr, decide_eq_false (fun x => hg (h.1.mpr x)), decide_eq_false (fun x => hz (h.2.mpr x)), Bool.false_or, Bool.false_and, beq_eq_false_iff_ne.mpr hz]
theorem truth_nil {news : Led} {vs : List Value} {ts : List (Int × Rat)} (h : All2 (TermIn news) vs ts) (hz : ¬ (0 : Int) < (vs.length : Int)) : ts = [] := by
  rw [h.length] at hz
  exact List.length_eq_zero_iff.mp (by omega)
theorem truth_cons {news : Led} {vs : List Value} {ts : List (Int × Rat)} (h : All2 (TermIn news) vs ts) (hz : (0 : Int) < (vs.length : Int)) : ts ≠ [] := by
  rintro rfl
  rw [h.length] at hz
  simp at hz
set_option maxHeartbeats 8000000 in
theorem truth_spec {w : World} {mean : ExcName → Option Value} {mg mb : Str → Option Value} {news : Led} {a : Addr} {row : Row} (hr : RowIn news (.ref a) row) (hlen : row.ts.length ≤ 1000) :
    Spec w mean mg mb 591 3 news [.ref a] (fun tl r => tl = [] ∧ (row.ts ≠ [] ∧ r = .none ∨ row.ts = [] ∧ r = .bool (truth row.rel row.b))) := by
  unfold Spec
  k_fill
  intro dp un gd cn cs a ccd cl outer A₀ base h₀ L m s Q E B F X N T hk hd hu hret
  refine hr.at fun _ _ _ _ _ _ hra hrt hts hrb => ?_
  have hvl : (by assumption : List Value).length ≤ 1000 := by rw [hts.length]; exact hlen
  refine wpAny_call ?_
  (k_dflt ktr_enter; (rename Fr _ _ _ _ => F8); refine fold_fr F8 ?_; clear F8; intro u8 F8)
  (repeat' (first | (k_unfold; (try dsimp only)) | (k_end; wrow_close) | ((with_reducible show wpAny _ _ (call (Value.ref _) _) _ _ _); first | ((with_reducible show wpAny _ _ (call (Value.ref 128) _) _ _ _); walk_at "nz:int"; (· k_dflt (apply comparezero_spec <;> walk_at "nz:p")); walk_at "nz:int2")) | walk1 | (dsimp only; walk1) | (leave1; (try dsimp only)) | fail "no step"))
  · exact hret _ [] _ _ (by k_asm) (news_sub (by assumption) (by repeat' first | exact sub_refl | with_reducible assumption | exact sub_nil | refine sub_cons (by k_mem) ?_ | refine sub_tail ?_ | exact sub_left | refine sub_app ?_ | refine sub_both ?_ ?_)) ⟨rfl, .inl ⟨truth_cons hts (by with_reducible assumption), rfl⟩⟩
  · exact hret _ [] _ _ (by k_asm) (news_sub (by assumption) (by repeat' first | exact sub_refl | with_reducible assumption | exact sub_nil | refine sub_cons (by k_mem) ?_ | refine sub_tail ?_ | exact sub_left | refine sub_app ?_ | refine sub_both ?_ ?_)) ⟨rfl, .inr ⟨truth_nil hts (by with_reducible assumption), by rw [truth_e (by with_reducible assumption) (by with_reducible assumption)]⟩⟩
  · exact hret _ [] _ _ (by k_asm) (news_sub (by assumption) (by repeat' first | exact sub_refl | with_reducible assumption | exact sub_nil | refine sub_cons (by k_mem) ?_ | refine sub_tail ?_ | exact sub_left | refine sub_app ?_ | refine sub_both ?_ ?_)) ⟨rfl, .inr ⟨truth_nil hts (by with_reducible assumption), by rw [truth_l (by with_reducible assumption) (by with_reducible assumption) (by with_reducible assumption)]⟩⟩
  · exact hret _ [] _ _ (by k_asm) (news_sub (by assumption) (by repeat' first | exact sub_refl | with_reducible assumption | exact sub_nil | refine sub_cons (by k_mem) ?_ | refine sub_tail ?_ | exact sub_left | refine sub_app ?_ | refine sub_both ?_ ?_)) ⟨rfl, .inr ⟨truth_nil hts (by with_reducible assumption), by rw [truth_z (by with_reducible assumption) (by with_reducible assumption) (by with_reducible assumption) (by with_reducible assumption)]⟩⟩
  · exact hret _ [] _ _ (by k_asm) (news_sub (by assumption) (by repeat' first | exact sub_refl | with_reducible assumption | exact sub_nil | refine sub_cons (by k_mem) ?_ | refine sub_tail ?_ | exact sub_left | refine sub_app ?_ | refine sub_both ?_ ?_)) ⟨rfl, .inr ⟨truth_nil hts (by with_reducible assumption), by rw [truth_g (by with_reducible assumption) (by with_reducible assumption) (by with_reducible assumption) (by with_reducible assumption)]⟩⟩
end
section
/-- the tight row, of whole terms -/
def Row.tight (srt : List Int) (row : Row) : Row :=
  if row.whole.rel = Str.ofString "=" ∨ row.whole.ts = [] ∨ row.whole.ts.all (wholeT srt) = false then row.whole
  else if row.whole.rel = Str.ofString "<" ∧ row.whole.b.den = 1 then ⟨row.whole.ts, Str.ofString "<=", row.whole.b - 1⟩
  else ⟨row.whole.ts, Str.ofString "<=", Rat.divInt row.whole.b.floor 1⟩
/-- what is asked of the whole row, that it be read on -/
structure WholeOk (srt : List Int) (f : Row) : Prop where
  len : f.ts.length ≤ 1000
  id : ∀ t ∈ f.ts, 0 ≤ t.1 ∧ t.1 < 1000 ∧ t.1.toNat < srt.length
  bden : (f.b.den : Int) < 1152921504606846976
section
variable {news : Led} {vs : List Value} {srt : List Int} {row : Row}
theorem rel_ne {x : Str} {y : Str} (h : (x == y) = false) : x ≠ y := by
  rintro rfl
  simp at h
theorem tight_1 (hall : All2 (TermIn news) vs row.whole.ts) (h : (vs.length : Int) = 0) : row.tight srt = row.whole := by
  rw [hall.length] at h
  rw [Row.tight, if_pos (.inr (.inl (List.length_eq_zero_iff.mp (by omega))))]
theorem tight_5 (hall : All2 (TermIn news) vs row.whole.ts) (h : row.whole.ts.all (wholeT srt) = false) : row.tight srt = row.whole := by
  rw [Row.tight, if_pos (.inr (.inr h))]
theorem tight_n (hall : All2 (TermIn news) vs row.whole.ts) (h1 : (row.whole.rel == Str.ofString "=") = false) (h2 : (vs.length : Int) ≠ 0) (h3 : row.whole.ts.all (wholeT srt) = true) :
    ¬ (row.whole.rel = Str.ofString "=" ∨ row.whole.ts = [] ∨ row.whole.ts.all (wholeT srt) = false) := by
  rintro (e | e | e)
  · exact rel_ne h1 e
  · rw [hall.length, e] at h2
    exact h2 rfl
  · rw [h3] at e
    exact nomatch e
theorem tight_2 (hall : All2 (TermIn news) vs row.whole.ts) (h1 : (row.whole.rel == Str.ofString "=") = false) (h2 : (vs.length : Int) ≠ 0) (h3 : row.whole.ts.all (wholeT srt) = true) (h4 : (row.whole.rel == Str.ofString "<") = true) (h5 : (row.whole.b.den : Int) = 1) :
    row.tight srt = ⟨row.whole.ts, Str.ofString "<=", row.whole.b - 1⟩ := by rw [Row.tight, if_neg (tight_n hall h1 h2 h3), if_pos ⟨eq_of_beq h4, by omega⟩]
theorem tight_3 (hall : All2 (TermIn news) vs row.whole.ts) (h1 : (row.whole.rel == Str.ofString "=") = false) (h2 : (vs.length : Int) ≠ 0) (h3 : row.whole.ts.all (wholeT srt) = true) (h4 : (row.whole.rel == Str.ofString "<") = true) (h5 : (row.whole.b.den : Int) ≠ 1) :
    row.tight srt = ⟨row.whole.ts, Str.ofString "<=", Rat.divInt row.whole.b.floor 1⟩ := by rw [Row.tight, if_neg (tight_n hall h1 h2 h3), if_neg fun e => h5 (by omega)]
theorem tight_4 (hall : All2 (TermIn news) vs row.whole.ts) (h1 : (row.whole.rel == Str.ofString "=") = false) (h2 : (vs.length : Int) ≠ 0) (h3 : row.whole.ts.all (wholeT srt) = true) (h4 : (row.whole.rel == Str.ofString "<") = false) :
    row.tight srt = ⟨row.whole.ts, Str.ofString "<=", Rat.divInt row.whole.b.floor 1⟩ := by rw [Row.tight, if_neg (tight_n hall h1 h2 h3), if_neg fun e => rel_ne h4 e.1]
end
set_option maxHeartbeats 8000000 in
theorem tight_spec {w : World} {mean : ExcName → Option Value} {mg mb : Str → Option Value} {news : Led} {a : Addr} {bk : Value} {row : Row} {srt : List Int} (hB : BankIn w news bk srt) (hr : RowIn news (.ref a) row) (ok : RowOk row) (wok : WholeOk srt row.whole) :
    Spec w mean mg mb 584 8 news [bk, .ref a] (fun tl r => RowIn (tl ++ news) r (row.tight srt)) := by
  unfold Spec
  k_fill
  intro dp un gd cn cs a ccd cl outer A₀ base h₀ L m s Q E B F X N T hk hd hu hret
  have hid := wok.id
  have hln := wok.len
  have hbd := wok.bden
  refine wpAny_call ?_
  (k_dflt ktr_enter; (rename Fr _ _ _ _ => F8); refine fold_fr F8 ?_; clear F8; intro u8 F8)
  (repeat' (first | (k_unfold; (try dsimp only)) | (k_end; wrow_close) | ((with_reducible show wpAny _ _ (call (Value.ref _) _) _ _ _); first | ((with_reducible show wpAny _ _ (call (Value.ref 577) _) _ _ _); walk_at "nz:val"; (· k_dflt (apply hw_spec <;> walk_at "nz:p")); walk_at "nz:bool2") | ((with_reducible show wpAny _ _ (call (Value.ref 261) _) _ _ _); walk_at "nz:val"; (· k_dflt (apply sort_spec <;> walk_at "nz:p")); walk_at "nz:intx2") | ((with_reducible show wpAny _ _ (call (Value.ref 570) _) _ _ _); walk_at "nz:row"; (· k_dflt (apply wholerow_spec <;> walk_at "nz:p")); walk_at "nz:row2") | ((with_reducible show wpAny _ _ (call (Value.ref 563) _) _ _ _); walk_at "nz:wf"; (· k_dflt (exact wf_spec (by walk_at "nz:row1") (by exact RowOk.den (by assumption)) (by exact RowOk.num (by assumption)) (by exact RowOk.S (by assumption)))); walk_at "nz:wf2") | ((with_reducible show wpAny _ _ (call (Value.ref 114) _) _ _ _); walk_at "nz:rt"; (· k_dflt (exact subone_spec (by k_mem) (by first | assumption | omega))); walk_at "nz:rt2") | ((with_reducible show wpAny _ _ (call (Value.ref 142) _) _ _ _); walk_at "nz:val"; (· k_dflt (apply whole_spec <;> walk_at "nz:p")); walk_at "nz:bool2") | ((with_reducible show wpAny _ _ (call (Value.ref 135) _) _ _ _); walk_at "nz:int"; (· k_dflt (exact floor_spec (by k_mem) (by first | assumption | omega))); walk_at "nz:int2") | ((with_reducible show wpAny _ _ (call (Value.ref 93) _) _ _ _); walk_at "nz:rt"; (· k_dflt (apply ratio_spec <;> omega)); walk_at "nz:rt2")) | walk1 | (dsimp only; walk1) | (leave1; (try dsimp only)) | fail "no step"))
  · ((rename News _ _ _ _ => N9); refine hret _ _ _ _ (by k_asm) (news_sub N9 (sub_both sub_refl (by repeat' first | exact sub_refl | with_reducible assumption | exact sub_nil | refine sub_cons (by k_mem) ?_ | refine sub_tail ?_ | exact sub_left | refine sub_app ?_ | refine sub_both ?_ ?_))) ?_)
    rw [Row.tight, if_pos (.inl (eq_of_beq (by with_reducible assumption)))]
    exact RowIn.mono (by with_reducible assumption) sub_left
  · (rename All2 _ _ _ => hall)
    have hl9 : _ ≤ 1000 := hall.length.symm ▸ hln
    (repeat' (first | (k_unfold; (try dsimp only)) | (k_end; wrow_close) | ((with_reducible show wpAny _ _ (call (Value.ref _) _) _ _ _); first | ((with_reducible show wpAny _ _ (call (Value.ref 577) _) _ _ _); walk_at "nz:val"; (· k_dflt (apply hw_spec <;> walk_at "nz:p")); walk_at "nz:bool2") | ((with_reducible show wpAny _ _ (call (Value.ref 261) _) _ _ _); walk_at "nz:val"; (· k_dflt (apply sort_spec <;> walk_at "nz:p")); walk_at "nz:intx2") | ((with_reducible show wpAny _ _ (call (Value.ref 570) _) _ _ _); walk_at "nz:row"; (· k_dflt (apply wholerow_spec <;> walk_at "nz:p")); walk_at "nz:row2") | ((with_reducible show wpAny _ _ (call (Value.ref 563) _) _ _ _); walk_at "nz:wf"; (· k_dflt (exact wf_spec (by walk_at "nz:row1") (by exact RowOk.den (by assumption)) (by exact RowOk.num (by assumption)) (by exact RowOk.S (by assumption)))); walk_at "nz:wf2") | ((with_reducible show wpAny _ _ (call (Value.ref 114) _) _ _ _); walk_at "nz:rt"; (· k_dflt (exact subone_spec (by k_mem) (by first | assumption | omega))); walk_at "nz:rt2") | ((with_reducible show wpAny _ _ (call (Value.ref 142) _) _ _ _); walk_at "nz:val"; (· k_dflt (apply whole_spec <;> walk_at "nz:p")); walk_at "nz:bool2") | ((with_reducible show wpAny _ _ (call (Value.ref 135) _) _ _ _); walk_at "nz:int"; (· k_dflt (exact floor_spec (by k_mem) (by first | assumption | omega))); walk_at "nz:int2") | ((with_reducible show wpAny _ _ (call (Value.ref 93) _) _ _ _); walk_at "nz:rt"; (· k_dflt (apply ratio_spec <;> omega)); walk_at "nz:rt2")) | walk1 | (dsimp only; walk1) | (leave1; (try dsimp only)) | fail "no step"))
    · ((rename News _ _ _ _ => N9); refine hret _ _ _ _ (by k_asm) (news_sub N9 (sub_both sub_refl (by repeat' first | exact sub_refl | with_reducible assumption | exact sub_nil | refine sub_cons (by k_mem) ?_ | refine sub_tail ?_ | exact sub_left | refine sub_app ?_ | refine sub_both ?_ ?_))) ?_)
      rw [tight_1 hall (by with_reducible assumption)]
      exact RowIn.mono (by with_reducible assumption) sub_left
    · ((rename News _ _ _ _ => N9); refine hret _ _ _ _ (by k_asm) (news_sub N9 (sub_both sub_refl (by repeat' first | exact sub_refl | with_reducible assumption | exact sub_nil | refine sub_cons (by k_mem) ?_ | refine sub_tail ?_ | exact sub_left | refine sub_app ?_ | refine sub_both ?_ ?_))) ?_)
      rw [tight_2 hall (by with_reducible assumption) (by with_reducible assumption) (by with_reducible assumption) (by with_reducible assumption) (by with_reducible assumption)]
      exact (RowIn.mk (row := ⟨row.whole.ts, Str.ofString "<=", row.whole.b - 1⟩) (by k_mem) (.mk (by k_mem) (hall.imp fun _ _ k => k.mono (by repeat' first | exact sub_refl | with_reducible assumption | exact sub_nil | refine sub_cons (by k_mem) ?_ | refine sub_tail ?_ | exact sub_left | refine sub_app ?_ | refine sub_both ?_ ?_))) (RtIn.mk (ρ := row.whole.b - 1) (by k_mem))).mono sub_left
    · ((rename News _ _ _ _ => N9); refine hret _ _ _ _ (by k_asm) (news_sub N9 (sub_both sub_refl (by repeat' first | exact sub_refl | with_reducible assumption | exact sub_nil | refine sub_cons (by k_mem) ?_ | refine sub_tail ?_ | exact sub_left | refine sub_app ?_ | refine sub_both ?_ ?_))) ?_)
      (rename _ = Rat.floor _ => e9)
      rw [tight_3 hall (by with_reducible assumption) (by with_reducible assumption) (by with_reducible assumption) (by with_reducible assumption) (by with_reducible assumption), ← e9]
      exact (RowIn.mk (row := ⟨row.whole.ts, Str.ofString "<=", Rat.divInt _ 1⟩) (by k_mem) (.mk (by k_mem) (hall.imp fun _ _ k => k.mono (by repeat' first | exact sub_refl | with_reducible assumption | exact sub_nil | refine sub_cons (by k_mem) ?_ | refine sub_tail ?_ | exact sub_left | refine sub_app ?_ | refine sub_both ?_ ?_))) (RtIn.mk (ρ := Rat.divInt _ 1) (by k_mem))).mono sub_left
    · ((rename News _ _ _ _ => N9); refine hret _ _ _ _ (by k_asm) (news_sub N9 (sub_both sub_refl (by repeat' first | exact sub_refl | with_reducible assumption | exact sub_nil | refine sub_cons (by k_mem) ?_ | refine sub_tail ?_ | exact sub_left | refine sub_app ?_ | refine sub_both ?_ ?_))) ?_)
      (rename _ = Rat.floor _ => e9)
      rw [tight_4 hall (by with_reducible assumption) (by with_reducible assumption) (by with_reducible assumption) (by with_reducible assumption), ← e9]
      exact (RowIn.mk (row := ⟨row.whole.ts, Str.ofString "<=", Rat.divInt _ 1⟩) (by k_mem) (.mk (by k_mem) (hall.imp fun _ _ k => k.mono (by repeat' first | exact sub_refl | with_reducible assumption | exact sub_nil | refine sub_cons (by k_mem) ?_ | refine sub_tail ?_ | exact sub_left | refine sub_app ?_ | refine sub_both ?_ ?_))) (RtIn.mk (ρ := Rat.divInt _ 1) (by k_mem))).mono sub_left
    · ((rename News _ _ _ _ => N9); refine hret _ _ _ _ (by k_asm) (news_sub N9 (sub_both sub_refl (by repeat' first | exact sub_refl | with_reducible assumption | exact sub_nil | refine sub_cons (by k_mem) ?_ | refine sub_tail ?_ | exact sub_left | refine sub_app ?_ | refine sub_both ?_ ?_))) ?_)
      rw [tight_5 hall (by with_reducible assumption)]
      exact RowIn.mono (by with_reducible assumption) sub_left
end
section
def Row.hopeless (srt : List Int) (row : Row) : Bool :=
  if row.ts = [] then !truth row.rel row.b else row.whole.rel == Str.ofString "=" && (row.whole.ts.all (wholeT srt) && !((row.whole.b.den : Int) == 1))
section
variable {srt : List Int} {row : Row}
theorem hp_1 (h0 : row.ts ≠ []) (h1 : (row.whole.rel == Str.ofString "=") = true) (h2 : row.whole.ts.all (wholeT srt) = true) : row.hopeless srt = !((row.whole.b.den : Int) == 1) := by
  rw [Row.hopeless, if_neg h0, h1, h2, Bool.true_and, Bool.true_and]
theorem hp_2 (h0 : row.ts ≠ []) (h1 : (row.whole.rel == Str.ofString "=") = true) (h2 : row.whole.ts.all (wholeT srt) = false) : row.hopeless srt = row.whole.ts.all (wholeT srt) := by
  rw [Row.hopeless, if_neg h0, h1, h2, Bool.true_and, Bool.false_and]
theorem hp_3 (h0 : row.ts ≠ []) (h1 : (row.whole.rel == Str.ofString "=") = false) : row.hopeless srt = (row.whole.rel == Str.ofString "=") := by
  rw [Row.hopeless, if_neg h0, h1, Bool.false_and]
theorem hp_4 (h0 : row.ts = []) : row.hopeless srt = !truth row.rel row.b := by rw [Row.hopeless, if_pos h0]
end
set_option maxHeartbeats 8000000 in
theorem hopeless_spec {w : World} {mean : ExcName → Option Value} {mg mb : Str → Option Value} {news : Led} {a : Addr} {bk : Value} {row : Row} {srt : List Int} (hB : BankIn w news bk srt) (hr : RowIn news (.ref a) row) (ok : RowOk row) (wok : WholeOk srt row.whole) :
    Spec w mean mg mb 598 8 news [bk, .ref a] (fun tl r => tl = [] ∧ r = .bool (row.hopeless srt)) := by
  unfold Spec
  k_fill
  intro dp un gd cn cs a ccd cl outer A₀ base h₀ L m s Q E B F X N T hk hd hu hret
  have hid := wok.id
  have hln := wok.len
  have hbd := wok.bden
  refine wpAny_call ?_
  (k_dflt ktr_enter; (rename Fr _ _ _ _ => F8); refine fold_fr F8 ?_; clear F8; intro u8 F8)
  (repeat' (first | (k_unfold; (try dsimp only)) | (k_end; wrow_close) | ((with_reducible show wpAny _ _ (call (Value.ref _) _) _ _ _); first | ((with_reducible show wpAny _ _ (call (Value.ref 584) _) _ _ _); walk_at "nz:row"; (· k_dflt (apply tight_spec <;> walk_at "nz:p")); walk_at "nz:row2") | ((with_reducible show wpAny _ _ (call (Value.ref 591) _) _ _ _); walk_at "nz:val"; (· k_dflt (exact truth_spec (by walk_at "nz:row1") (by first | assumption | exact RowOk.len (by assumption)))); walk_at "nz:or2") | ((with_reducible show wpAny _ _ (call (Value.ref 577) _) _ _ _); walk_at "nz:val"; (· k_dflt (apply hw_spec <;> walk_at "nz:p")); walk_at "nz:bool2") | ((with_reducible show wpAny _ _ (call (Value.ref 261) _) _ _ _); walk_at "nz:val"; (· k_dflt (apply sort_spec <;> walk_at "nz:p")); walk_at "nz:intx2") | ((with_reducible show wpAny _ _ (call (Value.ref 570) _) _ _ _); walk_at "nz:row"; (· k_dflt (apply wholerow_spec <;> walk_at "nz:p")); walk_at "nz:row2") | ((with_reducible show wpAny _ _ (call (Value.ref 563) _) _ _ _); walk_at "nz:wf"; (· k_dflt (exact wf_spec (by walk_at "nz:row1") (by exact RowOk.den (by assumption)) (by exact RowOk.num (by assumption)) (by exact RowOk.S (by assumption)))); walk_at "nz:wf2") | ((with_reducible show wpAny _ _ (call (Value.ref 142) _) _ _ _); walk_at "nz:val"; (· k_dflt (apply whole_spec <;> walk_at "nz:p")); walk_at "nz:bool2")) | walk1 | (dsimp only; walk1) | (leave1; (try dsimp only)) | fail "no step"))
  · exact hret _ [] _ _ (by k_asm) (news_sub (by assumption) (by repeat' first | exact sub_refl | with_reducible assumption | exact sub_nil | refine sub_cons (by k_mem) ?_ | refine sub_tail ?_ | exact sub_left | refine sub_app ?_ | refine sub_both ?_ ?_)) ⟨rfl, by rw [hp_1 (by with_reducible assumption) (by with_reducible assumption) (by with_reducible assumption)]⟩
  · exact hret _ [] _ _ (by k_asm) (news_sub (by assumption) (by repeat' first | exact sub_refl | with_reducible assumption | exact sub_nil | refine sub_cons (by k_mem) ?_ | refine sub_tail ?_ | exact sub_left | refine sub_app ?_ | refine sub_both ?_ ?_)) ⟨rfl, by rw [hp_2 (by with_reducible assumption) (by with_reducible assumption) (by with_reducible assumption)]⟩
  · exact hret _ [] _ _ (by k_asm) (news_sub (by assumption) (by repeat' first | exact sub_refl | with_reducible assumption | exact sub_nil | refine sub_cons (by k_mem) ?_ | refine sub_tail ?_ | exact sub_left | refine sub_app ?_ | refine sub_both ?_ ?_)) ⟨rfl, by rw [hp_3 (by with_reducible assumption) (by with_reducible assumption)]⟩
  · exact hret _ [] _ _ (by k_asm) (news_sub (by assumption) (by repeat' first | exact sub_refl | with_reducible assumption | exact sub_nil | refine sub_cons (by k_mem) ?_ | refine sub_tail ?_ | exact sub_left | refine sub_app ?_ | refine sub_both ?_ ?_)) ⟨rfl, by rw [hp_4 (by with_reducible assumption)]⟩
end
section
noncomputable def rsum : List (Int × Rat) → List Int → Rat
  | t :: ts, w :: ws => t.2 * (w : Rat) + rsum ts ws
  | _, _ => 0
def dprod (ts : List (Int × Rat)) : Int := ts.foldl (fun c t => c * (t.2.den : Int)) 1
theorem dprod_snoc (l : List (Int × Rat)) (x : Int × Rat) : dprod (l ++ [x]) = dprod l * (x.2.den : Int) := by simp [dprod]
theorem rsum_snoc : ∀ (ts : List (Int × Rat)) (ws : List Int) (t : Int × Rat) (x : Int), ts.length = ws.length → rsum (ts ++ [t]) (ws ++ [x]) = rsum ts ws + t.2 * (x : Rat)
  | [], [], t, x, _ => by simp [rsum, Rat.add_zero, Rat.zero_add]
  | [], _ :: _, _, _, h => by simp at h
  | _ :: _, [], _, _, h => by simp at h
  | a :: ts, b :: ws, t, x, h => by
    have ih := rsum_snoc ts ws t x (by simpa using h)
    show a.2 * (b : Rat) + rsum (ts ++ [t]) (ws ++ [x]) = a.2 * (b : Rat) + rsum ts ws + t.2 * (x : Rat)
    rw [ih, Rat.add_assoc]
theorem dprod_pos (l : List (Int × Rat)) : 0 < dprod l := by
  unfold dprod
  have : ∀ (l : List (Int × Rat)) (c : Int), 0 < c → 0 < l.foldl (fun c t => c * (t.2.den : Int)) c := by
    intro l
    induction l with
    | nil => intro c h; exact h
    | cons t l ih => intro c h; exact ih _ (Int.mul_pos h (den_pos t.2))
  exact this l 1 (by decide)
theorem sum_step {top bot : Int} {ρ : Rat} {x : Int} (hb : 0 < bot) : Rat.divInt (top * (ρ.den : Int) + ρ.num * x * bot) (bot * (ρ.den : Int)) = Rat.divInt top bot + ρ * (x : Rat) := by
  have h1 : ρ * (x : Rat) = Rat.divInt (ρ.num * x) (ρ.den : Int) := by
    have := mul_val ρ (x : Rat)
    simpa using this
  rw [h1, Rat.divInt_add_divInt _ _ (by omega) (by have := den_pos ρ; omega)]
theorem sum_start {ts : List (Int × Rat)} {ws : List Int} : Rat.divInt 0 1 = rsum (ts.take 0) (ws.take 0) := by
  rw [List.take_zero, Rat.zero_divInt]
  rfl
abbrev IntV (v : Value) (i : Int) : Prop := ∃ t, v = Value.int i t
set_option maxHeartbeats 8000000 in
theorem sum_spec {w : World} {mean : ExcName → Option Value} {mg mb : Str → Option Value} {news : Led} {a l : Addr} {row : Row} {ps : List Value} {kk : Nat} {ws : List Int} (hr : RowIn news (.ref a) row) (hl : (l, listOf ps.toArray kk) ∈ news) (hps : All2 IntV ps ws)
    (hlen : row.ts.length = ws.length) (hden : ∀ t ∈ row.ts, (t.2.den : Int) < 1152921504606846976) (hnum : ∀ t ∈ row.ts, -1152921504606846976 < t.2.num ∧ t.2.num < 1152921504606846976) (hprod : ∀ i, dprod (row.ts.take i) < 1152921504606846976) :
    Spec w mean mg mb 624 3 news [.ref a, .ref l] (RtNew news (rsum row.ts ws)) := by
  unfold Spec
  k_fill
  intro dp un gd cn cs a ccd cl outer A₀ base h₀ L m s Q E B F X N T hk hd hu hret
  refine hr.at fun _ _ _ _ _ _ hra hrt hts hrb => ?_
  refine wpAny_call ?_
  (k_dflt ktr_enter; (rename Fr _ _ _ _ => F8); refine fold_fr F8 ?_; clear F8; intro u8 F8)
  (repeat' (first | (k_unfold; (try dsimp only)) | (k_end; wrow_close) | ((with_reducible show wpAny _ _ (call (Value.ref _) _) _ _ _); first | ((with_reducible show wpAny _ _ (call (Value.ref 612) _) _ _ _); walk_at "nz:rt"; (· k_dflt (apply low_spec <;> omega)); walk_at "nz:rt2")) | walk1 | (dsimp only; walk1) | (leave1; (try dsimp only)) | fail "no step"))
  (rename Fr _ _ _ _ => F1); (rename News _ _ _ _ => N1)
  refine for_zipTL F1 N1 (by k_mem) (by k_mem) (fun _ => news) (fun c : (Int × Tok) × (Int × Tok) => [(Str.ofString "top", .int c.1.1 c.1.2), (Str.ofString "bottom", .int c.2.1 c.2.2)]) [Str.ofString "t", Str.ofString "factor", Str.ofString "worth"]
    (fun i c => Rat.divInt c.1.1 c.2.1 = rsum (row.ts.take i) (ws.take i) ∧ c.2.1 = dprod (row.ts.take i)) ((0, _), (1, _)) (by repeat' first | exact sub_refl | with_reducible assumption | exact sub_nil | refine sub_cons (by k_mem) ?_ | refine sub_tail ?_ | exact sub_left | refine sub_app ?_ | refine sub_both ?_ ?_) (List.forall_mem_cons.mpr ⟨rfl, List.forall_mem_cons.mpr ⟨rfl, List.forall_mem_nil _⟩⟩) ⟨sum_start, rfl⟩ ?_ ?_
  · intro i v c u h tk own wr hi hv hR hw hwo F2 N2
    clear F1 N1
    dsimp only [kstB] at F2 N2 hw hR
    obtain ⟨T9, x9, y9, rfl, hx9, hy9, hT9⟩ := hv
    obtain ⟨x, hx, hT⟩ := hts.get hx9
    obtain ⟨y, hy, ty, rfl⟩ := hps.get hy9
    cases hT with | mk hm1 hm2 =>
    cases hm2 with | mk hm2 =>
    rename_i kk' _ ρ _ _ _
    have hpos := den_pos ρ
    have hden2 := hden _ (mem_at hx)
    have hnum2 := hnum _ (mem_at hx)
    have hpr := dprod_pos (row.ts.take i)
    have hpr2 := hprod i
    rw [← hR.2] at hpr hpr2
    dsimp only at hden2 hnum2
    (repeat' (first | (k_unfold; (try dsimp only)) | (k_end; wrow_close) | ((with_reducible show wpAny _ _ (call (Value.ref _) _) _ _ _); first | ((with_reducible show wpAny _ _ (call (Value.ref 612) _) _ _ _); walk_at "nz:rt"; (· k_dflt (apply low_spec <;> omega)); walk_at "nz:rt2")) | walk1 | (dsimp only; walk1) | (leave1; (try dsimp only)) | fail "no step"))
    (rename Fr _ _ _ _ => F9)
    refine nz_end ((_, _), (_, _)) F9 (by k_asm) (by repeat' first | exact sub_refl | with_reducible assumption | exact sub_nil | refine sub_cons (by k_mem) ?_ | refine sub_tail ?_ | exact sub_left | refine sub_app ?_ | refine sub_both ?_ ?_) (by repeat' first | exact sub_refl | with_reducible assumption | exact sub_nil | refine sub_cons (by k_mem) ?_ | refine sub_tail ?_ | exact sub_left | refine sub_app ?_ | refine sub_both ?_ ?_) hw (List.forall_mem_cons.mpr ⟨rfl, List.forall_mem_cons.mpr ⟨rfl, List.forall_mem_nil _⟩⟩) (by ksw_same) ⟨?_, ?_⟩
    · show Rat.divInt _ _ = rsum _ _
      rw [take_snoc hx, take_snoc hy, rsum_snoc _ _ _ _ (by rw [List.length_take, List.length_take, hlen]), ← hR.1]
      exact sum_step hpr
    · show _ = dprod _
      rw [take_snoc hx, dprod_snoc, ← hR.2]
  · intro c u h tk hR F2 N2
    clear F1 N1
    rw [hts.length, hps.length, ← hlen, Nat.min_self, List.take_length, hlen, List.take_length] at hR
    dsimp only [kstB] at F2 N2 hR
    have hpr := dprod_pos row.ts
    have hpr2 := hprod row.ts.length
    rw [List.take_length] at hpr2
    rw [← hR.2] at hpr hpr2
    (repeat' (first | (k_unfold; (try dsimp only)) | (k_end; wrow_close) | ((with_reducible show wpAny _ _ (call (Value.ref _) _) _ _ _); first | ((with_reducible show wpAny _ _ (call (Value.ref 612) _) _ _ _); walk_at "nz:rt"; (· k_dflt (apply low_spec <;> omega)); walk_at "nz:rt2")) | walk1 | (dsimp only; walk1) | (leave1; (try dsimp only)) | fail "no step"))
    exact hret _ [_] _ _ (by k_asm) (news_sub (by assumption) (by repeat' first | exact sub_refl | with_reducible assumption | exact sub_nil | refine sub_cons (by k_mem) ?_ | refine sub_tail ?_ | exact sub_left | refine sub_app ?_ | refine sub_both ?_ ?_)) (rtNew_re hR.1 (by first | assumption | exact ktn_ltOf (by assumption) | exact ktn_ltOf (And.right (by assumption)) | exact ktn_ltOf (And.right (And.right (by assumption))) | exact ktn_ltOf (And.right (And.right (And.right (by assumption))))))
end
section
def holds (rel : Str) (t b : Rat) : Bool := if rel = Str.ofString "=" then decide (t = b) else decide (t < b) || (decide (rel = Str.ofString "<=") && decide (t = b))
section
variable {rel : Str} {t b : Rat}
theorem hol_e (h : (rel == Str.ofString "=") = true) : holds rel t b = (t.num * (b.den : Int) == b.num * (t.den : Int)) := by
  rw [holds, if_pos (eq_of_beq h), Bool.eq_iff_iff, decide_eq_true_iff, beq_iff_eq, Rat.eq_iff_mul_eq_mul]
theorem hol_r (h : (rel == Str.ofString "=") = false) : holds rel t b = (decide (t < b) || (decide (rel = Str.ofString "<=") && decide (t = b))) := by rw [holds, if_neg (rel_ne h)]
theorem hol_l (h : (rel == Str.ofString "=") = false) (h1 : t.num * (b.den : Int) < b.num * (t.den : Int)) : holds rel t b = decide (t.num * (b.den : Int) < b.num * (t.den : Int)) := by
  rw [hol_r h, decide_eq_true ((Rat.lt_iff t b).mpr h1), decide_eq_true h1, Bool.true_or]
theorem hol_z (h : (rel == Str.ofString "=") = false) (h1 : ¬ t.num * (b.den : Int) < b.num * (t.den : Int)) (h2 : (rel == Str.ofString "<=") = true) : holds rel t b = (t.num * (b.den : Int) == b.num * (t.den : Int)) := by
  rw [hol_r h, decide_eq_false fun x => h1 ((Rat.lt_iff t b).mp x), decide_eq_true (eq_of_beq h2), Bool.false_or, Bool.true_and, Bool.eq_iff_iff, decide_eq_true_iff, beq_iff_eq, Rat.eq_iff_mul_eq_mul]
theorem hol_g (h : (rel == Str.ofString "=") = false) (h1 : ¬ t.num * (b.den : Int) < b.num * (t.den : Int)) (h2 : (rel == Str.ofString "<=") = false) : holds rel t b = (rel == Str.ofString "<=") := by
  rw [hol_r h, decide_eq_false fun x => h1 ((Rat.lt_iff t b).mp x), decide_eq_false (rel_ne h2), h2, Bool.false_or, Bool.false_and]
end
set_option maxHeartbeats 8000000 in
theorem holds_spec {w : World} {mean : ExcName → Option Value} {mg mb : Str → Option Value} {news : Led} {a l : Addr} {row : Row} {ps : List Value} {kk : Nat} {ws : List Int} (hr : RowIn news (.ref a) row) (hl : (l, listOf ps.toArray kk) ∈ news) (hps : All2 IntV ps ws)
    (hlen : row.ts.length = ws.length) (hden : ∀ t ∈ row.ts, (t.2.den : Int) < 1152921504606846976) (hnum : ∀ t ∈ row.ts, -1152921504606846976 < t.2.num ∧ t.2.num < 1152921504606846976) (hprod : ∀ i, dprod (row.ts.take i) < 1152921504606846976)
    (hb1 : -1152921504606846976 < row.b.num ∧ row.b.num < 1152921504606846976) (hb2 : (row.b.den : Int) < 1152921504606846976) :
    Spec w mean mg mb 631 5 news [.ref a, .ref l] (fun tl r => tl = [] ∧ r = .bool (holds row.rel (rsum row.ts ws) row.b)) := by
  unfold Spec
  k_fill
  intro dp un gd cn cs a ccd cl outer A₀ base h₀ L m s Q E B F X N T hk hd hu hret
  have hr' := hr
  refine hr.at fun _ _ _ _ _ _ hra hrt hts hrb => ?_
  have hbpos := den_pos row.b
  have hspos := den_pos (rsum row.ts ws)
  have hm1 : IntMulOk (rsum row.ts ws).num (row.b.den : Int) := mulOk_right ⟨by omega, hb2⟩
  have hm2 : IntMulOk row.b.num ((rsum row.ts ws).den : Int) := mulOk_left hb1
  refine wpAny_call ?_
  (k_dflt ktr_enter; (rename Fr _ _ _ _ => F8); refine fold_fr F8 ?_; clear F8; intro u8 F8)
  (repeat' (first | (k_unfold; (try dsimp only)) | (k_end; wrow_close) | ((with_reducible show wpAny _ _ (call (Value.ref _) _) _ _ _); first | ((with_reducible show wpAny _ _ (call (Value.ref 624) _) _ _ _); walk_at "nz:rt"; (· k_dflt (apply sum_spec <;> walk_at "nz:p")); walk_at "nz:rt2") | ((with_reducible show wpAny _ _ (call (Value.ref 584) _) _ _ _); walk_at "nz:row"; (· k_dflt (apply tight_spec <;> walk_at "nz:p")); walk_at "nz:row2") | ((with_reducible show wpAny _ _ (call (Value.ref 556) _) _ _ _); walk_at "nz:row"; (· k_dflt (exact scaled_spec' (by walk_at "nz:row1") (by first | assumption | exact fac_m | exact fac_led (by k_mem)) (by first | assumption | exact RowOk.scm (by assumption)))); walk_at "nz:row2") | ((with_reducible show wpAny _ _ (call (Value.ref 556) _) _ _ _); walk_at "nz:row"; (· k_dflt (exact scnorm_spec (by walk_at "nz:row1") (by first | with_reducible assumption | exact fac_one' (by assumption) | exact fac_led' (by assumption) (by k_mem)) (by assumption))); walk_at "nz:row2")) | walk1 | (dsimp only; walk1) | (leave1; (try dsimp only)) | fail "no step"))
  · exact hret _ [] _ _ (by k_asm) (news_sub (by assumption) (by repeat' first | exact sub_refl | with_reducible assumption | exact sub_nil | refine sub_cons (by k_mem) ?_ | refine sub_tail ?_ | exact sub_left | refine sub_app ?_ | refine sub_both ?_ ?_)) ⟨rfl, by rw [hol_e (by with_reducible assumption)]⟩
  · exact hret _ [] _ _ (by k_asm) (news_sub (by assumption) (by repeat' first | exact sub_refl | with_reducible assumption | exact sub_nil | refine sub_cons (by k_mem) ?_ | refine sub_tail ?_ | exact sub_left | refine sub_app ?_ | refine sub_both ?_ ?_)) ⟨rfl, by rw [hol_l (by with_reducible assumption) (by with_reducible assumption)]⟩
  · exact hret _ [] _ _ (by k_asm) (news_sub (by assumption) (by repeat' first | exact sub_refl | with_reducible assumption | exact sub_nil | refine sub_cons (by k_mem) ?_ | refine sub_tail ?_ | exact sub_left | refine sub_app ?_ | refine sub_both ?_ ?_)) ⟨rfl, by rw [hol_z (by with_reducible assumption) (by with_reducible assumption) (by with_reducible assumption)]⟩
  · exact hret _ [] _ _ (by k_asm) (news_sub (by assumption) (by repeat' first | exact sub_refl | with_reducible assumption | exact sub_nil | refine sub_cons (by k_mem) ?_ | refine sub_tail ?_ | exact sub_left | refine sub_app ?_ | refine sub_both ?_ ?_)) ⟨rfl, by rw [hol_g (by with_reducible assumption) (by with_reducible assumption) (by with_reducible assumption)]⟩
end
section
/-- whole, and without a common divisor -/
def Prim (ts : List (Int × Rat)) : Prop := (∀ t ∈ ts, t.2.den = 1) ∧ ∀ d : Int, (∀ t ∈ ts, d ∣ t.2.num) → d ∣ 1
theorem rat_int {ρ : Rat} (h : ρ.den = 1) : ρ = (ρ.num : Rat) := Rat.ext rfl h
theorem cop_dvd {a b c : Int} (h : a ∣ b * c) (g : Int.gcd a b = 1) : a ∣ c := by
  have h1 : a.natAbs ∣ b.natAbs * c.natAbs := by rw [← Int.natAbs_mul]; exact Int.natAbs_dvd_natAbs.mpr h
  exact Int.natAbs_dvd_natAbs.mp (Nat.Coprime.dvd_of_dvd_mul_left g h1)
theorem cast_ne {n : Int} (h : n ≠ 0) : (n : Rat) ≠ 0 := fun e => h (Rat.intCast_inj.mp e)
theorem den_dvd {n : Int} {c : Rat} (h : ((n : Rat) * c).den = 1) : (c.den : Int) ∣ n := by
  have h1 := rat_int h
  have h2 : c = Rat.divInt c.num c.den := (Rat.num_divInt_den c).symm
  have hd := cast_ne (show (c.den : Int) ≠ 0 by have := den_pos c; omega)
  have h3 : c * ((c.den : Int) : Rat) = (c.num : Rat) := by
    have := Rat.divInt_eq_div c.num (c.den : Int)
    rw [← h2] at this
    grind
  have h4 : (n : Rat) * (c.num : Rat) = (((n : Rat) * c).num : Rat) * ((c.den : Int) : Rat) := by
    rw [← h3]; grind
  rw [← Rat.intCast_mul, ← Rat.intCast_mul] at h4
  have h5 := Rat.intCast_inj.mp h4
  refine cop_dvd (b := c.num) ⟨_, by rw [Int.mul_comm c.num n, h5, Int.mul_comm]⟩ ?_
  have := c.reduced
  rw [Int.gcd_comm]
  exact this
theorem rat_num_pos {ρ : Rat} (h : 0 < ρ) : 0 < ρ.num := by
  have := (Rat.lt_iff 0 ρ).mp h
  simpa using this
theorem prim_one {ts : List (Int × Rat)} {c : Rat} (h : Prim ts) (hc : 0 < c) (h' : Prim (ts.map (scaleT c))) : c = 1 := by
  have hd : c.den = 1 := by
    have : (c.den : Int) ∣ 1 := h.2 _ fun t ht => by
      have h1 := h'.1 (scaleT c t) (List.mem_map_of_mem ht)
      have h2 := rat_int (h.1 t ht)
      unfold scaleT at h1
      rw [h2] at h1
      exact den_dvd h1
    have := Int.eq_one_of_dvd_one (Int.natCast_nonneg _) this
    omega
  have hc' := rat_int hd
  have hn : c.num ∣ 1 := h'.2 _ fun t ht => by
    obtain ⟨u, hu, rfl⟩ := List.mem_map.mp ht
    have h2 := rat_int (h.1 u hu)
    show c.num ∣ (u.2 * c).num
    rw [h2, hc', ← Rat.intCast_mul]
    show c.num ∣ u.2.num * c.num
    exact Int.dvd_mul_left _ _
  have hp : 0 < c.num := rat_num_pos hc
  have := Int.eq_one_of_dvd_one (Int.le_of_lt hp) hn
  rw [hc', this]
  rfl
theorem scaleT_scaleT (a b : Rat) (ts : List (Int × Rat)) : (ts.map (scaleT a)).map (scaleT b) = ts.map (scaleT (a * b)) := by
  rw [List.map_map]
  refine List.map_congr_left fun t _ => ?_
  show (t.1, t.2 * a * b) = (t.1, t.2 * (a * b))
  rw [Rat.mul_assoc]
theorem scaleT_one (ts : List (Int × Rat)) : ts.map (scaleT 1) = ts := by
  have : scaleT 1 = id := by funext t; simp [scaleT, Rat.mul_one]
  rw [this, List.map_id]
/-- the one factor above 0 that makes a list primitive -/
theorem prim_unique {ts : List (Int × Rat)} {a b : Rat} (ha : 0 < a) (hb : 0 < b) (h1 : Prim (ts.map (scaleT a))) (h2 : Prim (ts.map (scaleT b))) : a = b := by
  have e : b = a * (b / a) := by grind
  rw [e, ← scaleT_scaleT] at h2
  have := prim_one h1 (c := b / a) (by rw [Rat.div_def]; exact Rat.mul_pos hb (Rat.inv_pos.mpr ha)) h2
  grind
-- the program's factor
theorem wfC_gen (ts : List (Int × Rat)) : ∀ c : Int, 0 < c → 0 < ts.foldl (fun c t => (Int.lcm c (t.2.den : Int) : Int)) c ∧ c ∣ ts.foldl (fun c t => (Int.lcm c (t.2.den : Int) : Int)) c ∧ ∀ t ∈ ts, (t.2.den : Int) ∣ ts.foldl (fun c t => (Int.lcm c (t.2.den : Int) : Int)) c := by
  induction ts with
  | nil => exact fun c h => ⟨h, Int.dvd_refl _, fun _ h => nomatch h⟩
  | cons t ts ih =>
    intro c h
    have hp : (0 : Int) < (Int.lcm c (t.2.den : Int) : Int) := by
      have := Int.lcm_pos (show c ≠ 0 by omega) (show (t.2.den : Int) ≠ 0 by have := den_pos t.2; omega)
      omega
    obtain ⟨h1, h2, h3⟩ := ih _ hp
    refine ⟨h1, Int.dvd_trans (Int.dvd_lcm_left _ _) h2, fun u hu => ?_⟩
    rcases List.mem_cons.mp hu with rfl | hu
    · exact Int.dvd_trans (Int.dvd_lcm_right _ _) h2
    · exact h3 u hu
theorem wfC_pos (ts : List (Int × Rat)) : 0 < wfC ts := (wfC_gen ts 1 (by decide)).1
theorem wfC_dvd {ts : List (Int × Rat)} : ∀ t ∈ ts, (t.2.den : Int) ∣ wfC ts := (wfC_gen ts 1 (by decide)).2.2
theorem wfS_gen (C : Int) (ts : List (Int × Rat)) : ∀ c : Int, 0 ≤ c → 0 ≤ ts.foldl (fun s t => (Int.gcd s (t.2.num * C.fdiv (t.2.den : Int)) : Int)) c ∧ ts.foldl (fun s t => (Int.gcd s (t.2.num * C.fdiv (t.2.den : Int)) : Int)) c ∣ c ∧ (∀ t ∈ ts, ts.foldl (fun s t => (Int.gcd s (t.2.num * C.fdiv (t.2.den : Int)) : Int)) c ∣ t.2.num * C.fdiv (t.2.den : Int)) ∧
    ∀ d : Int, d ∣ c → (∀ t ∈ ts, d ∣ t.2.num * C.fdiv (t.2.den : Int)) → d ∣ ts.foldl (fun s t => (Int.gcd s (t.2.num * C.fdiv (t.2.den : Int)) : Int)) c := by
  induction ts with
  | nil => exact fun c h => ⟨h, Int.dvd_refl _, (fun _ h => nomatch h), fun _ h _ => h⟩
  | cons t ts ih =>
    intro c h
    obtain ⟨h1, h2, h3, h4⟩ := ih (Int.gcd c (t.2.num * C.fdiv (t.2.den : Int)) : Int) (Int.natCast_nonneg _)
    refine ⟨h1, Int.dvd_trans h2 (Int.gcd_dvd_left _ _), fun u hu => ?_, fun d hd ha => h4 d (Int.dvd_coe_gcd hd (ha t List.mem_cons_self)) fun u hu => ha u (List.mem_cons_of_mem _ hu)⟩
    rcases List.mem_cons.mp hu with rfl | hu
    · exact Int.dvd_trans h2 (Int.gcd_dvd_right _ _)
    · exact h3 u hu
theorem wfS_dvd {ts : List (Int × Rat)} {C : Int} : ∀ t ∈ ts, wfS ts C ∣ t.2.num * C.fdiv (t.2.den : Int) := (wfS_gen C ts 0 (by decide)).2.2.1
theorem wfS_max {ts : List (Int × Rat)} {C d : Int} (h : ∀ t ∈ ts, d ∣ t.2.num * C.fdiv (t.2.den : Int)) : d ∣ wfS ts C := (wfS_gen C ts 0 (by decide)).2.2.2 d (Int.dvd_zero _) h
theorem fdiv_mul {a b : Int} (h : b ∣ a) : a.fdiv b * b = a := by
  obtain ⟨k, rfl⟩ := h
  by_cases hb : b = 0
  · subst hb; simp
  · rw [Int.mul_comm b k, Int.mul_fdiv_cancel _ hb]
theorem wfS_pos {ts : List (Int × Rat)} (hz : ts ≠ []) (hn : ∀ t ∈ ts, t.2 ≠ 0) : 0 < wfS ts (wfC ts) := by
  have h0 : 0 ≤ wfS ts (wfC ts) := (wfS_gen _ ts 0 (by decide)).1
  rcases Int.lt_or_eq_of_le h0 with h | h
  · exact h
  · exfalso
    obtain ⟨t, ts', e⟩ := List.exists_cons_of_ne_nil hz
    have ht : t ∈ ts := by rw [e]; exact List.mem_cons_self
    have h1 := wfS_dvd (C := wfC ts) t ht
    rw [← h] at h1
    have h2 := Int.zero_dvd.mp h1
    have h3 := fdiv_mul (wfC_dvd t ht)
    have h4 := wfC_pos ts
    rcases Int.mul_eq_zero.mp h2 with h2 | h2
    · exact hn t ht (Rat.num_eq_zero.mp h2)
    · rw [h2] at h3; omega
theorem num_den (ρ : Rat) : ρ * ((ρ.den : Int) : Rat) = (ρ.num : Rat) := by
  have h2 : ρ = Rat.divInt ρ.num ρ.den := (Rat.num_divInt_den ρ).symm
  have hd := cast_ne (show (ρ.den : Int) ≠ 0 by have := den_pos ρ; omega)
  have := Rat.divInt_eq_div ρ.num (ρ.den : Int)
  rw [← h2] at this
  grind
theorem wf_term {ts : List (Int × Rat)} (hz : ts ≠ []) (hn : ∀ t ∈ ts, t.2 ≠ 0) {t : Int × Rat} (ht : t ∈ ts) :
    ∃ k : Int, t.2 * wf ts = (k : Rat) ∧ wfS ts (wfC ts) * k = t.2.num * (wfC ts).fdiv (t.2.den : Int) := by
  obtain ⟨k, hk⟩ := wfS_dvd (C := wfC ts) t ht
  refine ⟨k, ?_, hk.symm⟩
  have hS := cast_ne (show wfS ts (wfC ts) ≠ 0 by have := wfS_pos hz hn; omega)
  have hd := cast_ne (show (t.2.den : Int) ≠ 0 by have := den_pos t.2; omega)
  have h1 := congrArg (Int.cast (R := Rat)) hk
  have h2 := congrArg (Int.cast (R := Rat)) (fdiv_mul (wfC_dvd t ht))
  rw [Rat.intCast_mul, Rat.intCast_mul] at h1
  rw [Rat.intCast_mul] at h2
  have h3 := num_den t.2
  unfold wf
  rw [Rat.divInt_eq_div]
  generalize (wfC ts : Rat) = c at *
  generalize (wfS ts (wfC ts) : Rat) = S at *
  generalize ((wfC ts).fdiv (t.2.den : Int) : Rat) = q at *
  grind
theorem wf_pos {ts : List (Int × Rat)} (hz : ts ≠ []) (hn : ∀ t ∈ ts, t.2 ≠ 0) : 0 < wf ts := by
  unfold wf
  rw [Rat.divInt_eq_div, Rat.div_def]
  have h1 := wfC_pos ts
  have h2 := wfS_pos hz hn
  exact Rat.mul_pos (Rat.intCast_pos.mpr h1) (Rat.inv_pos.mpr (Rat.intCast_pos.mpr h2))
theorem wf_prim {ts : List (Int × Rat)} (hz : ts ≠ []) (hn : ∀ t ∈ ts, t.2 ≠ 0) : Prim (ts.map (scaleT (wf ts))) := by
  refine ⟨fun t ht => ?_, fun d hd => ?_⟩
  · obtain ⟨u, hu, rfl⟩ := List.mem_map.mp ht
    obtain ⟨k, hk, _⟩ := wf_term hz hn hu
    show (u.2 * wf ts).den = 1
    rw [hk]
    exact Rat.den_intCast k
  · have h : wfS ts (wfC ts) * d ∣ wfS ts (wfC ts) := wfS_max fun t ht => by
      obtain ⟨k, hk, e⟩ := wf_term hz hn ht
      have := hd _ (List.mem_map_of_mem (f := scaleT (wf ts)) ht)
      rw [← e]
      refine Int.mul_dvd_mul_left _ ?_
      show d ∣ k
      have e2 : (scaleT (wf ts) t).2.num = k := by show (t.2 * wf ts).num = k; rw [hk]; rfl
      rw [e2] at this
      exact this
    have hS := wfS_pos hz hn
    have h' : wfS ts (wfC ts) * d ∣ wfS ts (wfC ts) * 1 := by rw [Int.mul_one]; exact h
    exact Int.dvd_of_mul_dvd_mul_left (by omega) h'
theorem Prim.neg {ts : List (Int × Rat)} (h : Prim ts) : Prim (ts.map (scaleT (-1))) := by
  have key : ∀ t : Int × Rat, (scaleT (-1) t).2 = - t.2 := fun t => by show t.2 * (-1) = - t.2; grind
  refine ⟨fun t ht => ?_, fun d hd => h.2 d fun t ht => ?_⟩
  · obtain ⟨u, hu, rfl⟩ := List.mem_map.mp ht
    rw [key, Rat.neg_den]
    exact h.1 u hu
  · have := hd _ (List.mem_map_of_mem (f := scaleT (-1)) ht)
    rw [key, Rat.neg_num] at this
    exact Int.dvd_neg.mp this
theorem scale_ne {ts : List (Int × Rat)} {c : Rat} (hc : c ≠ 0) (hn : ∀ t ∈ ts, t.2 ≠ 0) : ∀ t ∈ ts.map (scaleT c), t.2 ≠ 0 := fun t ht => by
  obtain ⟨u, hu, rfl⟩ := List.mem_map.mp ht
  have := hn u hu
  show u.2 * c ≠ 0
  grind
theorem scale_nil {ts : List (Int × Rat)} {c : Rat} (hz : ts ≠ []) : ts.map (scaleT c) ≠ [] := by simpa using hz
theorem wf_scale {ts : List (Int × Rat)} {c : Rat} (hz : ts ≠ []) (hn : ∀ t ∈ ts, t.2 ≠ 0) (hc : 0 < c) : c * wf (ts.map (scaleT c)) = wf ts := by
  have hn' := scale_ne (show c ≠ 0 by grind) hn
  have hz' := scale_nil (c := c) hz
  refine prim_unique (ts := ts) (Rat.mul_pos hc (wf_pos hz' hn')) (wf_pos hz hn) ?_ (wf_prim hz hn)
  rw [← scaleT_scaleT]
  exact wf_prim hz' hn'
theorem wf_neg {ts : List (Int × Rat)} (hz : ts ≠ []) (hn : ∀ t ∈ ts, t.2 ≠ 0) : wf (ts.map (scaleT (-1))) = wf ts := by
  have hn' := scale_ne (show (-1 : Rat) ≠ 0 by decide) hn
  have hz' := scale_nil (c := -1) hz
  refine prim_unique (ts := ts) (wf_pos hz' hn') (wf_pos hz hn) ?_ (wf_prim hz hn)
  have h := (wf_prim hz' hn').neg
  rw [scaleT_scaleT, scaleT_scaleT] at h
  have e : -1 * (wf (ts.map (scaleT (-1))) * -1) = wf (ts.map (scaleT (-1))) := by grind
  rw [e] at h
  exact h
def NonZ (row : Row) : Prop := row.ts ≠ [] ∧ ∀ t ∈ row.ts, t.2 ≠ 0
theorem Row.ext' {a b : Row} (h1 : a.ts = b.ts) (h2 : a.rel = b.rel) (h3 : a.b = b.b) : a = b := by cases a; cases b; simp_all
theorem Row.scaled_scaled (row : Row) (a b : Rat) : (row.scaled a).scaled b = row.scaled (a * b) := Row.ext' (scaleT_scaleT a b row.ts) rfl (Rat.mul_assoc _ _ _)
theorem Row.scaled_one (row : Row) : row.scaled 1 = row := Row.ext' (scaleT_one row.ts) rfl (Rat.mul_one _)
theorem NonZ.scaled {row : Row} (h : NonZ row) {c : Rat} (hc : c ≠ 0) : NonZ (row.scaled c) := ⟨scale_nil h.1, scale_ne hc h.2⟩
theorem NonZ.wf {row : Row} (h : NonZ row) : wfF row.ts = Nz.wf row.ts := by rw [wfF, if_neg h.1]
theorem NonZ.wpos {row : Row} (h : NonZ row) : 0 < wfF row.ts := by rw [h.wf]; exact wf_pos h.1 h.2
theorem norm_pos {row : Row} (h : NonZ row) {c : Rat} (hc : 0 < c) : (row.scaled c).norm = row.norm := by
  have h' := h.scaled (show c ≠ 0 by grind)
  rw [Row.norm, Row.norm, Row.scaled_scaled, h.wf, h'.wf]
  rw [show c * Nz.wf (row.scaled c).ts = Nz.wf row.ts from wf_scale h.1 h.2 hc]
theorem norm_neg {row : Row} (h : NonZ row) : (row.scaled (-1)).norm = row.norm.scaled (-1) := by
  have h' := h.scaled (show (-1 : Rat) ≠ 0 by decide)
  rw [Row.norm, Row.norm, Row.scaled_scaled, Row.scaled_scaled, h.wf, h'.wf]
  rw [show Nz.wf (row.scaled (-1)).ts = Nz.wf row.ts from wf_neg h.1 h.2, Rat.mul_comm]
theorem whole_norm {a b : Row} (h : a.norm = b.norm) : a.whole = b.whole := by rw [Row.whole, Row.whole, h]
theorem whole_pos {row : Row} (h : NonZ row) {c : Rat} (hc : 0 < c) : (row.scaled c).whole = row.whole := whole_norm (norm_pos h hc)
/-- one of the two signs -/
theorem neg_sign {f : Row} (h : NonZ f) (hr : f.rel = Str.ofString "=") : (f.scaled (-1)).isNeg ↔ ¬ f.isNeg := by
  obtain ⟨hz, hn⟩ := h
  obtain ⟨ts, rel, b⟩ := f
  cases ts with
  | nil => exact absurd rfl hz
  | cons t ts =>
    have ht := hn t List.mem_cons_self
    have e : t.2 * (-1) = - t.2 := by grind
    have h1 : (Row.mk (t :: ts) rel b).isNeg ↔ t.2.num < 0 := by simp only [Row.isNeg]; exact ⟨fun x => x.2, fun x => ⟨hr, x⟩⟩
    have h2 : ((Row.mk (t :: ts) rel b).scaled (-1)).isNeg ↔ (t.2 * (-1)).num < 0 := by simp only [Row.isNeg, Row.scaled, List.map_cons, scaleT]; exact ⟨fun x => x.2, fun x => ⟨hr, x⟩⟩
    rw [h1, h2, e, Rat.neg_num]
    have : t.2.num ≠ 0 := fun x => ht (Rat.num_eq_zero.mp x)
    omega
theorem whole_neg {row : Row} (h : NonZ row) (hr : row.rel = Str.ofString "=") : (row.scaled (-1)).whole = row.whole := by
  have hp := h.wpos
  have hN : NonZ row.norm := h.scaled (c := wfF row.ts) (by grind)
  have hs := neg_sign hN hr
  rw [Row.whole, Row.whole, norm_neg h]
  by_cases q : row.norm.isNeg
  · rw [if_neg (fun x => hs.mp x q), if_pos q]
  · rw [if_pos (hs.mpr q), if_neg q, Row.scaled_scaled, show (-1 : Rat) * -1 = 1 by grind, Row.scaled_one]
theorem whole_scaled {row : Row} (h : NonZ row) {c : Rat} (hc : c ≠ 0) (hr : 0 < c ∨ row.rel = Str.ofString "=") : (row.scaled c).whole = row.whole := by
  by_cases hp : 0 < c
  · exact whole_pos h hp
  · have hr := hr.resolve_left hp
    have e : row.scaled c = (row.scaled (-1)).scaled (-c) := by rw [Row.scaled_scaled, show (-1 : Rat) * (-c) = c by grind]
    rw [e, whole_pos (h.scaled (by decide)) (by grind), whole_neg h hr]
theorem whole_form {row : Row} (h : NonZ row) : ∃ c : Rat, c ≠ 0 ∧ (0 < c ∨ row.rel = Str.ofString "=") ∧ row.whole = row.scaled c ∧ (c = wfF row.ts ∨ c = - wfF row.ts) := by
  have hp := h.wpos
  rw [Row.whole]
  by_cases q : row.norm.isNeg
  · rw [if_pos q]
    refine ⟨wfF row.ts * -1, by grind, .inr q.1, ?_, .inr (by grind)⟩
    rw [Row.norm, Row.scaled_scaled]
  · rw [if_neg q]
    exact ⟨wfF row.ts, by grind, .inl hp, rfl, .inl rfl⟩
theorem whole_whole {row : Row} (h : NonZ row) : row.whole.whole = row.whole := by
  obtain ⟨c, hc, hr, e, _⟩ := whole_form h
  have := whole_scaled h hc hr
  rw [← e] at this
  exact this
theorem whole_nil {row : Row} (h : row.ts = []) : row.whole = row := by
  have e : row.norm = row := by rw [Row.norm, wfF, if_pos h, Row.scaled_one]
  rw [whole_eq_nil (by rw [e]; exact h), e]
theorem tight_whole {a b : Row} {srt : List Int} (h : a.whole = b.whole) : a.tight srt = b.tight srt := by rw [Row.tight, Row.tight, h]
theorem tight_scaled {row : Row} {srt : List Int} (h : NonZ row) {c : Rat} (hc : c ≠ 0) (hr : 0 < c ∨ row.rel = Str.ofString "=") : (row.scaled c).tight srt = row.tight srt := tight_whole (whole_scaled h hc hr)
theorem whole_rel {row : Row} : row.whole.rel = row.rel := by rw [Row.whole]; split <;> rfl
theorem prim_whole {row : Row} (h : NonZ row) : Prim row.whole.ts := by
  have hp := wf_prim h.1 h.2
  rw [Row.whole]
  split
  · have := hp.neg
    rw [Row.norm, h.wf]
    exact this
  · rw [Row.norm, h.wf]
    exact hp
theorem NonZ.whole {row : Row} (h : NonZ row) : NonZ row.whole := by
  obtain ⟨c, hc, _, e, _⟩ := whole_form h
  rw [e]
  exact h.scaled hc
theorem wf_prim_one {row : Row} (h : NonZ row) (hp : Prim row.ts) : wfF row.ts = 1 := by
  rw [h.wf]
  refine prim_unique (ts := row.ts) (wf_pos h.1 h.2) (by decide) (wf_prim h.1 h.2) ?_
  rw [scaleT_one]
  exact hp
theorem le_ne_eq : Str.ofString "<=" ≠ Str.ofString "=" := by decide
theorem lt_ne_eq : Str.ofString "<" ≠ Str.ofString "=" := by decide
theorem le_ne_lt : Str.ofString "<=" ≠ Str.ofString "<" := by decide
theorem whole_le {ts : List (Int × Rat)} {b : Rat} (h : NonZ ⟨ts, Str.ofString "<=", b⟩) (hp : Prim ts) : (Row.mk ts (Str.ofString "<=") b).whole = ⟨ts, Str.ofString "<=", b⟩ := by
  have e := wf_prim_one h hp
  have e2 : (Row.mk ts (Str.ofString "<=") b).norm = ⟨ts, Str.ofString "<=", b⟩ := by rw [Row.norm, e, Row.scaled_one]
  rw [Row.whole, e2, if_neg]
  rintro ⟨x, _⟩
  exact le_ne_eq x
/-- the row is rounded -/
def Rounds (srt : List Int) (row : Row) : Prop := ¬ (row.whole.rel = Str.ofString "=" ∨ row.whole.ts = [] ∨ row.whole.ts.all (wholeT srt) = false)
theorem tight_form (srt : List Int) (row : Row) : (¬ Rounds srt row ∧ row.tight srt = row.whole) ∨ (Rounds srt row ∧ ∃ z : Int, row.tight srt = ⟨row.whole.ts, Str.ofString "<=", (z : Rat)⟩ ∧
    ((row.whole.rel = Str.ofString "<" ∧ row.whole.b.den = 1 ∧ (z : Rat) = row.whole.b - 1) ∨ (¬ (row.whole.rel = Str.ofString "<" ∧ row.whole.b.den = 1) ∧ z = row.whole.b.floor))) := by
  rw [Row.tight]
  by_cases q : row.whole.rel = Str.ofString "=" ∨ row.whole.ts = [] ∨ row.whole.ts.all (wholeT srt) = false
  · exact .inl ⟨fun x => x q, by rw [if_pos q]⟩
  · refine .inr ⟨q, ?_⟩
    rw [if_neg q]
    by_cases p : row.whole.rel = Str.ofString "<" ∧ row.whole.b.den = 1
    · refine ⟨row.whole.b.num - 1, ?_, .inl ⟨p.1, p.2, ?_⟩⟩
      · rw [if_pos p]
        have := rat_int p.2
        congr 1
        rw [Rat.intCast_sub, ← this]
        rfl
      · have := rat_int p.2
        rw [Rat.intCast_sub, ← this]
        rfl
    · refine ⟨row.whole.b.floor, ?_, .inr ⟨p, rfl⟩⟩
      rw [if_neg p]
      congr 1
      exact Rat.ext (divInt_one_num _) (by have := divInt_one_den row.whole.b.floor; show _ = 1; omega)
theorem rounds_tight {row : Row} {srt : List Int} (h : NonZ row) (r : Rounds srt row) (b : Rat) : (Row.mk row.whole.ts (Str.ofString "<=") b).whole = ⟨row.whole.ts, Str.ofString "<=", b⟩ :=
  whole_le ⟨h.whole.1, h.whole.2⟩ (prim_whole h)
theorem tight_tight {row : Row} {srt : List Int} (h : row.ts = [] ∨ NonZ row) : (row.tight srt).tight srt = row.tight srt := by
  rcases tight_form srt row with ⟨q, e⟩ | ⟨q, z, e, _⟩
  · rw [e, ← e]
    refine tight_whole ?_
    rw [e]
    rcases h with h | h
    · rw [whole_nil h, whole_nil h]
    · exact whole_whole h
  · have hz : NonZ row := h.resolve_left fun x => q (.inr (.inl (by rw [whole_nil x]; exact x)))
    have hw := rounds_tight hz q (z : Rat)
    rcases tight_form srt (row.tight srt) with ⟨q', e'⟩ | ⟨q', z', e', p⟩
    · rw [e', e, hw]
    · rw [e', e, hw]
      rw [e, hw] at p
      rcases p with ⟨x, _⟩ | ⟨_, x⟩
      · exact absurd x le_ne_lt
      · rw [x]
        show Row.mk _ _ (((z : Rat).floor : Int) : Rat) = _
        rw [Rat.floor_intCast]
-- the sums
theorem rsum_scale (c : Rat) : ∀ (ts : List (Int × Rat)) (ws : List Int), rsum (ts.map (scaleT c)) ws = rsum ts ws * c
  | [], [] => by simp [rsum, Rat.zero_mul]
  | [], _ :: _ => by simp [rsum, Rat.zero_mul]
  | _ :: _, [] => by simp [rsum, Rat.zero_mul]
  | t :: ts, x :: ws => by
    have ih := rsum_scale c ts ws
    show t.2 * c * (x : Rat) + rsum (ts.map (scaleT c)) ws = (t.2 * (x : Rat) + rsum ts ws) * c
    rw [ih]
    grind
theorem rsum_point (k : Int) : ∀ (ts : List (Int × Rat)) (ws : List Int), rsum ts (ws.map fun x => k * x) = rsum ts ws * (k : Rat)
  | [], [] => by simp [rsum, Rat.zero_mul]
  | [], _ :: _ => by simp [rsum, Rat.zero_mul]
  | _ :: _, [] => by simp [rsum, Rat.zero_mul]
  | t :: ts, x :: ws => by
    have ih := rsum_point k ts ws
    show t.2 * ((k * x : Int) : Rat) + rsum ts (ws.map fun x => k * x) = (t.2 * (x : Rat) + rsum ts ws) * (k : Rat)
    rw [ih, Rat.intCast_mul]
    grind
end
section
/-- the inner while of the law's dividing: (a, x, y) and (b, z, v), from (s, 1, 0) and (n, 0, 1) -/
structure PtInv (s n a x y b z v : Int) : Prop where
  ea : a = x * s + y * n
  eb : b = z * s + v * n
  ba : -1152921504606846976 < a ∧ a < 1152921504606846976
  bb : -1152921504606846976 < b ∧ b < 1152921504606846976
  gd : ∀ d : Int, d ∣ a → d ∣ b → d ∣ s ∧ d ∣ n
  bx : -1152921504606846976 < x ∧ x < 1152921504606846976
  bn : -1152921504606846976 < n ∧ n < 1152921504606846976
  sz : x.natAbs * b.natAbs + z.natAbs * a.natAbs ≤ n.natAbs
  sg : (x = 1 ∧ z = 0) ∨ (a ≠ 0 ∧ 0 ≤ a * b)
theorem pt_start {s n : Int} (hs : -1152921504606846976 < s ∧ s < 1152921504606846976) (hn : -1152921504606846976 < n ∧ n < 1152921504606846976) : PtInv s n s 1 0 n 0 1 where
  ea := by omega
  eb := by omega
  ba := hs
  bb := hn
  gd := fun d h1 h2 => ⟨h1, h2⟩
  bx := by omega
  bn := hn
  sz := by simp
  sg := .inl ⟨rfl, rfl⟩
theorem fdiv_le {a b : Int} (hb : b ≠ 0) : (a.fdiv b).natAbs ≤ a.natAbs := by
  have h := Int.mul_fdiv_add_fmod a b
  rcases Int.lt_or_lt_of_ne hb with h0 | h0
  · have h2 : -b > 0 := by omega
    have h3 := Int.fmod_nonneg_of_pos (-a) h2
    have h4 := Int.fmod_lt_of_pos (-a) h2
    rw [Int.neg_fmod_neg] at h3 h4
    generalize a.fmod b = r at *
    generalize a.fdiv b = q at *
    by_cases hq : q.natAbs ≤ a.natAbs
    · exact hq
    · exfalso
      have h5 : b ≤ -1 := by omega
      rcases Int.lt_or_le q 0 with h6 | h6
      · have h7 : q + 1 ≤ 0 := by omega
        have := Int.mul_le_mul_of_nonpos_right h5 h7
        simp only [Int.mul_add, Int.mul_one] at this
        omega
      · have : b * q ≤ -q := by
          have := Int.mul_le_mul_of_nonneg_right h5 h6
          omega
        omega
  · have h3 := Int.fmod_nonneg_of_pos a h0
    have h4 := Int.fmod_lt_of_pos a h0
    generalize a.fmod b = r at *
    generalize a.fdiv b = q at *
    by_cases hq : q.natAbs ≤ a.natAbs
    · exact hq
    · exfalso
      have h5 : 1 ≤ b := by omega
      rcases Int.lt_or_le q 0 with h6 | h6
      · have : b * q ≤ q := by
          have := Int.mul_le_mul_of_nonpos_right h5 (Int.le_of_lt h6)
          omega
        have h7 : q + 1 ≤ 0 := by omega
        have : b * (q + 1) ≤ q + 1 := by
          have := Int.mul_le_mul_of_nonpos_right h5 h7
          omega
        rw [Int.mul_add] at this
        omega
      · have : b * q ≥ q := by
          have := Int.mul_le_mul_of_nonneg_right h5 h6
          omega
        omega
theorem fmod_small {a b : Int} (hb : b ≠ 0) : (a.fmod b).natAbs < b.natAbs ∧ 0 ≤ b * a.fmod b := by
  rcases Int.lt_or_lt_of_ne hb with h0 | h0
  · have h2 : -b > 0 := by omega
    have h3 := Int.fmod_nonneg_of_pos (-a) h2
    have h4 := Int.fmod_lt_of_pos (-a) h2
    rw [Int.neg_fmod_neg] at h3 h4
    refine ⟨by omega, Int.mul_nonneg_of_nonpos_of_nonpos (by omega) (by omega)⟩
  · have h3 := Int.fmod_nonneg_of_pos a h0
    have h4 := Int.fmod_lt_of_pos a h0
    exact ⟨by omega, Int.mul_nonneg (by omega) h3⟩
theorem fmod_eq (a b : Int) : a - a.fdiv b * b = a.fmod b := by
  have := Int.mul_fdiv_add_fmod a b
  rw [Int.mul_comm] at this
  omega
theorem abs_lt' {b K : Int} (hb : -K < b ∧ b < K) : (b.natAbs : Int) < K := by omega
theorem of_abs_lt {b K : Int} (h : (b.natAbs : Int) < K) : -K < b ∧ b < K := by omega
theorem small_of {r b K : Int} (h : r.natAbs < b.natAbs) (hb : -K < b ∧ b < K) : -K < r ∧ r < K := of_abs_lt (Int.lt_trans (Int.ofNat_lt.mpr h) (abs_lt' hb))
theorem small_le {z n K : Int} {p q : Nat} (h : p + q ≤ n.natAbs) (hz : z.natAbs ≤ q) (hn : -K < n ∧ n < K) : -K < z ∧ z < K := of_abs_lt (Int.lt_of_le_of_lt (Int.ofNat_le.mpr (Nat.le_trans hz (Nat.le_trans (Nat.le_add_left q p) h))) (abs_lt' hn))
theorem quo_bd {a b K : Int} (hb : b ≠ 0) (h : -K < a ∧ a < K) : -K < a.fdiv b ∧ a.fdiv b < K := of_abs_lt (Int.lt_of_le_of_lt (Int.ofNat_le.mpr (fdiv_le hb)) (abs_lt' h))
theorem quo_neg {a b : Int} (h0 : b < 0) (hs : 0 ≤ a * b) : a ≤ 0 := by
  by_cases q : a ≤ 0
  · exact q
  · have := Int.mul_neg_of_pos_of_neg (a := a) (b := b) (by omega) h0
    omega
theorem quo_pos {a b : Int} (h0 : 0 < b) (hs : 0 ≤ a * b) : 0 ≤ a := by
  by_cases q : 0 ≤ a
  · exact q
  · have := Int.mul_neg_of_neg_of_pos (a := a) (b := b) (by omega) h0
    omega
theorem quo_nonneg {a b : Int} (hb : b ≠ 0) (hs : 0 ≤ a * b) : 0 ≤ a.fdiv b := by
  rcases Int.lt_or_lt_of_ne hb with h0 | h0
  · rw [← Int.neg_fdiv_neg]
    exact Int.fdiv_nonneg (Int.neg_nonneg_of_nonpos (quo_neg h0 hs)) (Int.neg_nonneg_of_nonpos (Int.le_of_lt h0))
  · exact Int.fdiv_nonneg (quo_pos h0 hs) (Int.le_of_lt h0)
theorem abs_neg2 {p r a : Int} (h1 : p ≤ 0) (h2 : r ≤ 0) (e : p + r = a) : a.natAbs = p.natAbs + r.natAbs := e ▸ Int.natAbs_add_of_nonpos h1 h2
theorem abs_pos2 {p r a : Int} (h1 : 0 ≤ p) (h2 : 0 ≤ r) (e : p + r = a) : a.natAbs = p.natAbs + r.natAbs := e ▸ Int.natAbs_add_of_nonneg h1 h2
theorem abs_split {a b : Int} (hb : b ≠ 0) (hq : 0 ≤ a.fdiv b) : a.natAbs = (a.fdiv b).natAbs * b.natAbs + (a.fmod b).natAbs := by
  have hm := Int.mul_fdiv_add_fmod a b
  rw [Nat.mul_comm, ← Int.natAbs_mul]
  rcases Int.lt_or_lt_of_ne hb with h0 | h0
  · refine abs_neg2 (Int.mul_nonpos_of_nonpos_of_nonneg (Int.le_of_lt h0) hq) ?_ hm
    have := Int.fmod_nonneg_of_pos (-a) (show -b > 0 by omega)
    rw [Int.neg_fmod_neg] at this
    omega
  · exact abs_pos2 (Int.mul_nonneg (Int.le_of_lt h0) hq) (Int.fmod_nonneg_of_pos a h0) hm
theorem sub_abs (x y : Int) : (x - y).natAbs ≤ x.natAbs + y.natAbs := Int.natAbs_sub_le x y
theorem nat_step {n a b c d e : Nat} (h1 : a + (b + c) ≤ n) (h2 : d ≤ a + e) (h3 : b = e) : c + d ≤ n := by omega
theorem start_x {x z n : Int} {A B : Nat} (hx : x = 1) (hz : z = 0) (h : x.natAbs * B + z.natAbs * A ≤ n.natAbs) : B ≤ n.natAbs := by
  subst hx; subst hz; simpa using h
theorem pt_turn {s n a x y b z v : Int} (h : PtInv s n a x y b z v) (hb : b ≠ 0) : PtInv s n b z v (a - a.fdiv b * b) (x - a.fdiv b * z) (y - a.fdiv b * v) ∧ (a - a.fdiv b * b).natAbs < b.natAbs := by
  obtain ⟨ea, eb, ba, bb, gd, bx, bn, sz, sg⟩ := h
  have hr := fmod_eq a b
  obtain ⟨h1, h2⟩ := fmod_small (a := a) hb
  refine ⟨⟨eb, ?_, bb, ?_, fun d hd hd' => ?_, ?_, bn, ?_, .inr ⟨hb, by rw [hr]; exact h2⟩⟩, by rw [hr]; exact h1⟩
  · rw [ea, eb]
    clear sz sg bx bn gd bb ba h1 h2 hr ea eb hb
    generalize (x * s + y * n).fdiv (z * s + v * n) = q
    grind
  · rw [hr]; exact small_of h1 bb
  · have : d ∣ a := by
      have := Int.dvd_add hd' (Int.dvd_trans hd (Int.dvd_mul_left (a.fdiv b) b))
      rwa [Int.sub_add_cancel] at this
    exact gd d this hd
  · rcases sg with ⟨_, hz⟩ | ⟨ha, _⟩
    · rw [hz]; decide
    · exact small_le sz (Nat.le_mul_of_pos_right _ (Int.natAbs_pos.mpr ha)) bn
  · rw [hr]
    rcases sg with ⟨hx, hz⟩ | ⟨ha, hs⟩
    · subst hx; subst hz
      have := start_x rfl rfl sz
      simpa using this
    · have hq := quo_nonneg hb hs
      have e := abs_split hb hq
      have t2 := Nat.mul_le_mul_right b.natAbs (sub_abs x (a.fdiv b * z))
      rw [Int.natAbs_mul, Nat.add_mul] at t2
      rw [e, Nat.mul_add] at sz
      exact nat_step sz t2 (by rw [← Nat.mul_assoc, Nat.mul_comm z.natAbs])
theorem pt_end {s n a x y b z v : Int} (h : PtInv s n a x y b z v) (hb : b = 0) : a = x * s + y * n ∧ a ∣ s ∧ a ∣ n := by
  have := h.gd a (Int.dvd_refl _) (by rw [hb]; exact Int.dvd_zero _)
  exact ⟨h.ea, this⟩
/-- the sum of the products -/
noncomputable def dot : List Int → List Int → Int
  | a :: as, b :: bs => a * b + dot as bs
  | _, _ => 0
theorem dot_snoc : ∀ (as bs : List Int) (a b : Int), as.length = bs.length → dot (as ++ [a]) (bs ++ [b]) = dot as bs + a * b
  | [], [], a, b, _ => by simp [dot]
  | [], _ :: _, _, _, h => by simp at h
  | _ :: _, [], _, _, h => by simp at h
  | x :: as, y :: bs, a, b, h => by
    have ih := dot_snoc as bs a b (by simpa using h)
    show x * y + dot (as ++ [a]) (bs ++ [b]) = x * y + dot as bs + a * b
    rw [ih]; omega
theorem dot_mul (k : Int) : ∀ (as bs : List Int), dot as (bs.map fun z => k * z) = k * dot as bs
  | [], [] => by simp [dot]
  | [], _ :: _ => by simp [dot]
  | _ :: _, [] => by simp [dot]
  | x :: as, y :: bs => by
    have ih := dot_mul k as bs
    show x * (k * y) + dot as (bs.map fun z => k * z) = k * (x * y + dot as bs)
    rw [ih, Int.mul_add, Int.mul_left_comm]
theorem dot_neg : ∀ (as bs : List Int), dot as (bs.map fun z => 0 - z) = - dot as bs
  | [], [] => by simp [dot]
  | [], _ :: _ => by simp [dot]
  | _ :: _, [] => by simp [dot]
  | x :: as, y :: bs => by
    have ih := dot_neg as bs
    show x * (0 - y) + dot as (bs.map fun z => 0 - z) = - (x * y + dot as bs)
    rw [ih, Int.mul_sub]
    omega
/-- the outer loop, of the numbers taken so far -/
structure PtOut (ns : List Int) (s : Int) (ps : List Int) : Prop where
  len : ps.length = ns.length
  sum : dot ns ps = s
  dvd : ∀ n ∈ ns, s ∣ n
  bd : -1152921504606846976 < s ∧ s < 1152921504606846976
theorem pt_snoc {ns ps : List Int} {s n a x y b z v : Int} (h : PtOut ns s ps) (q : PtInv s n a x y b z v) (hb : b = 0) : PtOut (ns ++ [n]) a (ps.map (fun l => x * l) ++ [y]) := by
  obtain ⟨e, d1, d2⟩ := pt_end q hb
  refine ⟨by simp [h.len], ?_, fun m hm => ?_, q.ba⟩
  · rw [dot_snoc _ _ _ _ (by simp [h.len]), dot_mul, h.sum, e, Int.mul_comm n y]
  · rcases List.mem_append.mp hm with hm | hm
    · exact Int.dvd_trans d1 (h.dvd m hm)
    · rw [List.mem_singleton.mp hm]; exact d2
/-- what _law_point answers -/
structure PtAns (ns : List Int) (s : Int) (ps : List Int) : Prop where
  nn : 0 ≤ s
  len : ps.length = ns.length
  sum : dot ns ps = s
  dvd : ∀ n ∈ ns, s ∣ n
  bd : s < 1152921504606846976
theorem pt_pos {ns ps : List Int} {s : Int} (h : PtOut ns s ps) (h0 : 0 ≤ s) : PtAns ns s ps := ⟨h0, h.len, h.sum, h.dvd, h.bd.2⟩
theorem pt_neg {ns ps : List Int} {s : Int} (h : PtOut ns s ps) (h0 : ¬ 0 ≤ s) : PtAns ns (0 - s) (ps.map fun l => 0 - l) :=
  ⟨by omega, by simp [h.len], by rw [dot_neg, h.sum]; omega, fun n hn => by rw [Int.zero_sub]; exact Int.neg_dvd.mpr (h.dvd n hn), by have := h.bd; omega⟩
end
section
def NzStop (p : Prop) : Prop := p
theorem nz_stop {p : Prop} (h : NzStop p) : p := h
theorem allLt_app {d : Addr} {r : Led} : ∀ {own : Led}, AllLt d (own ++ r) ↔ AllLt d own ∧ AllLt d r
  | [] => ⟨fun h => ⟨trivial, h⟩, fun h => h.2⟩
  | p :: own => by
    show (@LT.lt Nat _ p.1 d ∧ AllLt d (own ++ r)) ↔ (@LT.lt Nat _ p.1 d ∧ AllLt d own) ∧ AllLt d r
    rw [allLt_app, and_assoc]
theorem pairs_ints {vs1 vs2 : List Value} {xs ys : List Int} (h1 : All2 IntV vs1 xs) (h2 : All2 IntV vs2 ys) {i : Nat} {v : Value} {h : Heap} (hv : ∃ T x y, v = .ref T ∧ vs1[i]? = some x ∧ vs2[i]? = some y ∧ IsTup h T #[x, y]) :
    ∃ T a b, v = .ref T ∧ IsTup h T #[a, b] ∧ ∃ k t k' t', xs[i]? = some k ∧ a = Value.int k t ∧ ys[i]? = some k' ∧ b = Value.int k' t' := by
  obtain ⟨T, x, y, rfl, hx, hy, hT⟩ := hv
  obtain ⟨k, hk, t, rfl⟩ := h1.get hx
  obtain ⟨k', hk', t', rfl⟩ := h2.get hy
  exact ⟨_, _, _, rfl, hT, _, _, _, _, hk, rfl, hk', rfl⟩
theorem zip_at {f : Int → Int → Int} {xs ys : List Int} {i : Nat} {k k' : Int} (h : xs[i]? = some k) (h' : ys[i]? = some k') : (List.zipWith f xs ys)[i]? = some (f k k') := by
  rw [List.getElem?_zipWith, h, h']
theorem lt_of_allLt {d : Addr} {l : Led} {a : Addr} {o : Obj} (h : AllLt d l) (hm : (a, o) ∈ l) : @LT.lt Nat _ a d := by
  induction l with
  | nil => exact nomatch hm
  | cons p l ih =>
    rcases List.mem_cons.mp hm with rfl | hm
    · exact h.1
    · exact ih h.2 hm
theorem nz_addL {prog : Program} {w : World} {A : Around} {E : Value → Shared → Prop} {s : Shared} {h₀ : Heap} {L : Addr} {m : Str → Option Value} {news : Led} {a b : Addr} {vs ws : List Value} {k k' : Nat} {Q : Value → Shared → Prop}
    (F : Fr h₀ L s.heap m) (N : News h₀ L s.heap news) (ha : (a, listOf vs.toArray k) ∈ news) (hb : (b, listOf ws.toArray k') ∈ news) (hz : vs.length + ws.length ≤ 2000)
    (h : ∀ D h', Fr h₀ L h' m → News h₀ L h' ((D, listOf (vs ++ ws).toArray 0) :: news) → (∀ p ∈ news, p.1 < D) → Q (.ref D) { s with heap := h' }) : wpAny (model prog w) A (binaryOp .Add (.ref a) (.ref b)) Q E s :=
  add_lists F N (N.isList ha) (N.isList hb) (fun h' F' N' => h _ h' F' N' fun p hp => Heap.lt_size (N p hp).1) (Nat.le_trans hz (by decide))
section
variable {prog : Program} {w : World} {A : Around} {E : Value → Shared → Prop} {s : Shared} {env : Env} {h₀ : Heap} {m₀ : Str → Option Value} {target : Expr} {body : List Stmt} {Q : Flow → Shared → Prop} {news : Led}
/-- a tuple of the ledger is iterated -/
theorem for_tup2 {σ : Type} {ax : Addr} {vs : List Value} {k : Nat} (F : Fr h₀ env.locals s.heap m₀) (N : News h₀ env.locals s.heap news) (hm : (ax, ({ cls := .type "tuple", data := .seq vs.toArray k } : Obj)) ∈ news)
    (Ld : σ → Led) (ps : σ → List (Str × Value)) (stored : List Str) (R : Nat → σ → Prop) (c₀ : σ) (hsrc : ∀ c, (ax, ({ cls := .type "tuple", data := .seq vs.toArray k } : Obj)) ∈ Ld c) (hn : ∀ p ∈ Ld c₀, p ∈ news) (hk : ∀ p ∈ ps c₀, m₀ p.1 = some p.2) (hR : R 0 c₀)
    (turn : ForTurn2 prog w A h₀ env m₀ target body Q E s vs.length (fun i v _ => vs[i]? = some v) Ld ps stored R) (done : ForDone h₀ env m₀ Q s vs.length Ld ps stored R) (hh : A.handled = none := by rfl) :
    wpAny (model prog w) A (pyIter (.ref ax)) (fun it s₂ => TurnsAt prog w A h₀ env target body Q E it s₂) E s :=
  have hl : s.heap.IsTuple ax vs.toArray := ⟨_, (N _ hm).1, rfl, k, rfl⟩
  wpAny_pyIter_tuple hl (nz_for2 (s := { s with heap := _ }) (src_walk2 rfl F N hm (Walks.tuple hh _ ax (Nat.ne_of_lt (Heap.lt_size (N _ hm).1)) vs.toArray) ⟨⟨_, Heap.get?_push_size _ rfl, rfl, rfl⟩, hl.at fun o e => Heap.get?_push_of_some _ e⟩
    (fun i v s Q E st q => letGo_tupleiter st.1 q) fun i h st => let ⟨o, e, _⟩ := st; ⟨o, e⟩) Ld ps stored R c₀ (fun c p hp => by rw [List.mem_singleton.mp hp]; exact hsrc c) hn hk hR turn done)
end
end
local macro_rules | `(tactic| walk_at "binaryOp Add ref ref") => `(tactic| (k_here; k_dflt (refine' nz_addL ?k1 ?k2 ?k3 ?k4 ?k5 ?_; (case k1 => k_asm); (case k2 => k_asm); (case k3 => k_mem); (case k4 => k_mem); (case k5 => with_reducible assumption); k_whole); intro D' h' F' N' l1; (try k_lt l1); (try dsimp only)))
local macro_rules | `(tactic| k_lt $h) => `(tactic| (have hA := allLt_of $h; simp only [AllLt, allLt_app, and_true] at hA))
local macro_rules | `(tactic| k_all) => `(tactic| first | with_reducible assumption | (with_reducible refine' List.forall_mem_append.mpr ⟨?a, ?b⟩; (case a => k_all); (case b => k_all)))
local macro_rules | `(tactic| k_updF) => `(tactic| (with_reducible refine' UpdF.app ?a ?b; (case a => k_all); (case b => k_updF)))
local macro_rules | `(tactic| walk_at "exec Assign cons ListComp") => `(tactic| (k_here; k_dflt (refine nz_Assign_ListComp (_F₀ := by k_asm) (by rfl) (by with_unfolding_all rfl) (by with_unfolding_all rfl) (by decide) (by rfl) (by decide) (by rfl) (by rfl) ?_)))
section
structure PtS where
  o1 : Obj
  o2 : Obj
  P : Addr
  kk : Nat
  vs : List Value
  zs : List Int
  s : Int
  t : Tok
structure PtW where
  oM : Obj
  T1 : Addr
  T2 : Addr
  a : Int
  x : Int
  y : Int
  b : Int
  z : Int
  v : Int
  ta : Tok
  tx : Tok
  ty : Tok
  tb : Tok
  tz : Tok
  tv : Tok
local macro_rules | `(tactic| walk_at "exec While") => `(tactic| (k_here; refine nz_stop ?_))
set_option maxHeartbeats 8000000 in
theorem point_spec {w : World} {mean : ExcName → Option Value} {mg mb : Str → Option Value} {news : Led} {l : Addr} {ps : List Value} {kk : Nat} {ns : List Int} (hl : (l, listOf ps.toArray kk) ∈ news) (hps : All2 IntV ps ns) (hlen : ns.length ≤ 1000) (hb : ∀ n ∈ ns, -1152921504606846976 < n ∧ n < 1152921504606846976) :
    Spec w mean mg mb 617 3 news [.ref l] (fun tl r => ∃ T P t kk' vs zs s, r = .ref T ∧ (T, tupO [.int s t, .ref P]) ∈ tl ∧ (P, listOf vs.toArray kk') ∈ tl ∧ All2 IntV vs zs ∧ PtAns ns s zs) := by
  unfold Spec
  k_fill
  intro dp un gd cn cs a ccd cl outer A₀ base h₀ L m s Q E B F X N T hk hd hu hret
  refine wpAny_call ?_
  k_dflt (refine' code_defC ?k1 ?k2 ?k3 ?k4 ?k5 ?kA ?kF ?kK ?k6 ?k7 ?k8 ?k9 ?kB ?kD ?_ ?c2 ?c3 ?c4; (case kA => exact rfl); (case kF => exact rfl); (case kK => assumption); (case k1 => k_asm); (case k2 => k_asm); (case k3 => k_asm); (case k4 => k_asm); (case k5 => k_asm); (case k6 => k_is); (case k7 => k_is); (case k8 => ktr_room); (case k9 => exact BindsTo.of_eq rfl); (case kB => exact rfl); (case kD => decide +kernel); (case c2 => exact rfl); (case c3 => exact rfl); (case c4 => exact rfl); k_whole; intro g' L' h' tk' cells' FG' F' N' Y' B' X' T' l1; (try k_lt l1); k_cells Y'; (try simp only [List.cons_append, List.nil_append] at N'); (try dsimp only); (try k_fold); refine fold_fr F' ?_; clear F'; intro u8 F')
  (repeat' (first | (k_unfold; (try dsimp only)) | (k_end; wrow_close) | ((with_reducible show wpAny _ _ (call (Value.ref _) _) _ _ _); first | ((with_reducible show wpAny _ _ (call (Value.ref 624) _) _ _ _); walk_at "nz:rt"; (· k_dflt (apply sum_spec <;> walk_at "nz:p")); walk_at "nz:rt2") | ((with_reducible show wpAny _ _ (call (Value.ref 556) _) _ _ _); walk_at "nz:row"; (· k_dflt (exact scaled_spec' (by walk_at "nz:row1") (by first | assumption | exact fac_m | exact fac_led (by k_mem)) (by first | assumption | exact RowOk.scm (by assumption)))); walk_at "nz:row2") | ((with_reducible show wpAny _ _ (call (Value.ref 556) _) _ _ _); walk_at "nz:row"; (· k_dflt (exact scnorm_spec (by walk_at "nz:row1") (by first | with_reducible assumption | exact fac_one' (by assumption) | exact fac_led' (by assumption) (by k_mem)) (by assumption))); walk_at "nz:row2")) | walk1 | (dsimp only; walk1) | (leave1; (try dsimp only)) | fail "no step"))
  (rename Fr _ _ _ _ => F1); (rename News _ _ _ _ => N1)
  have hc1 : ∀ p ∈ news, p.1 ≠ L' + 1 := off_lt l1 (Nat.le_succ L')
  have hc2 : ∀ p ∈ news, p.1 ≠ L' + 1 + 1 := off_lt l1 (Nat.le_succ_of_le (Nat.le_succ L'))
  refine for_list2 F1 N1 (by k_mem) (fun c : PtS => (c.P, listOf c.vs.toArray c.kk) :: (L' + 1 + 1, c.o1) :: (L' + 1, c.o2) :: news) (fun c => [(Str.ofString "shared", .int c.s c.t), (Str.ofString "point", .ref c.P)]) [Str.ofString "number", Str.ofString "one", Str.ofString "other", Str.ofString "second"]
    (fun i c => PtOut (ns.take i) c.s c.zs ∧ All2 IntV c.vs c.zs ∧ (∃ v, c.o1.data = .cell v) ∧ (∃ v, c.o2.data = .cell v) ∧ L' + 1 + 1 < c.P) ⟨_, _, _, _, [], [], 0, _⟩ (fun c => by k_mem) (by repeat' first | exact sub_refl | with_reducible assumption | exact sub_nil | refine sub_cons (by k_mem) ?_ | refine sub_tail ?_ | exact sub_left | refine sub_app ?_ | refine sub_both ?_ ?_) (List.forall_mem_cons.mpr ⟨rfl, List.forall_mem_cons.mpr ⟨rfl, List.forall_mem_nil _⟩⟩) ⟨⟨rfl, rfl, (by simp), (by decide : -1152921504606846976 < (0:Int) ∧ (0:Int) < 1152921504606846976)⟩, .nil, ⟨_, by assumption⟩, ⟨_, by assumption⟩, (show L' + 1 + 1 < _ from ltN (by dsimp only; omega))⟩ ?_ ?_
  · intro i v c u h tk own wr hi hv hR hw hown hwo F2 N2
    clear F1 N1
    obtain ⟨o1, o2, P, kk1, vs, zs, s1, t1⟩ := c
    obtain ⟨hR, hvs, ⟨v1, ho1⟩, ⟨v2, ho2⟩, hP⟩ := hR
    dsimp only [kstB] at F2 N2 hw hR hvs ho1 ho2 hP
    replace hP := ltN hP
    have hq1 := off_of hw hown (a := L' + 1) (by k_mem)
    have hq2 := off_of hw hown (a := L' + 1 + 1) (by k_mem)
    have hq3 := off_of hw hown (a := P) (by k_mem)
    obtain ⟨n, hn, tn, rfl⟩ := hps.get hv
    have hnb := hb n (mem_at hn)
    (repeat' (first | (k_unfold; (try dsimp only)) | (k_end; wrow_close) | ((with_reducible show wpAny _ _ (call (Value.ref _) _) _ _ _); first | ((with_reducible show wpAny _ _ (call (Value.ref 624) _) _ _ _); walk_at "nz:rt"; (· k_dflt (apply sum_spec <;> walk_at "nz:p")); walk_at "nz:rt2") | ((with_reducible show wpAny _ _ (call (Value.ref 556) _) _ _ _); walk_at "nz:row"; (· k_dflt (exact scaled_spec' (by walk_at "nz:row1") (by first | assumption | exact fac_m | exact fac_led (by k_mem)) (by first | assumption | exact RowOk.scm (by assumption)))); walk_at "nz:row2") | ((with_reducible show wpAny _ _ (call (Value.ref 556) _) _ _ _); walk_at "nz:row"; (· k_dflt (exact scnorm_spec (by walk_at "nz:row1") (by first | with_reducible assumption | exact fac_one' (by assumption) | exact fac_led' (by assumption) (by k_mem)) (by assumption))); walk_at "nz:row2")) | walk1 | (dsimp only; walk1) | (leave1; (try dsimp only)) | fail "no step"))
    (rename Fr _ _ _ _ => F3); (rename News _ _ _ _ => N3)
    (rename _ = Data.cell (some (Value.int 0 _)) => dF)
    (rename Obj => oF)
    clear F2 N2
    unfold NzStop
    refine' nz_while F3 N3 (fun c : PtW => (c.T1, tupO [.int c.a c.ta, .int c.x c.tx, .int c.y c.ty]) :: (c.T2, tupO [.int c.b c.tb, .int c.z c.tz, .int c.v c.tv]) :: (L' + 1 + 1, c.oM) :: (L' + 1, oF) :: (own ++ (P, listOf vs.toArray kk1) :: news))
      (fun c => [(Str.ofString "one", .ref c.T1), (Str.ofString "other", .ref c.T2)]) []
      (fun k c => k = c.b.natAbs ∧ PtInv s1 n c.a c.x c.y c.b c.z c.v ∧ (∃ v, c.oM.data = .cell v) ∧ L' + 1 + 1 < c.T1 ∧ L' + 1 + 1 < c.T2) n.natAbs ⟨o1, _, _, _, _, _, _, _, _, _, _, _, _, _, _⟩ ?hn ?hk ?hR ?turn
    case hk => exact List.forall_mem_cons.mpr ⟨by exact rfl, List.forall_mem_cons.mpr ⟨by exact rfl, List.forall_mem_nil _⟩⟩
    case hn => exact sub_cons (by k_mem) (sub_cons (by k_mem) (sub_cons (by k_mem) (sub_cons (by k_mem) (sub_both (by repeat' first | exact sub_refl | with_reducible assumption | exact sub_nil | refine sub_cons (by k_mem) ?_ | refine sub_tail ?_ | exact sub_left | refine sub_app ?_ | refine sub_both ?_ ?_) (by repeat' first | exact sub_refl | with_reducible assumption | exact sub_nil | refine sub_cons (by k_mem) ?_ | refine sub_tail ?_ | exact sub_left | refine sub_app ?_ | refine sub_both ?_ ?_)))))
    case hR => exact ⟨rfl, pt_start hR.bd hnb, ⟨_, ho1⟩, (show L' + 1 + 1 < _ from ltN (by dsimp only; omega)), (show L' + 1 + 1 < _ from ltN (by dsimp only; omega))⟩
    case turn =>
      intro k c u h tk hI F4 N4
      clear F3 N3
      obtain ⟨oM, T1, T2, a, x, y, b, z, v, ta, tx, ty, tb, tz, tv⟩ := c
      obtain ⟨rfl, hI, ⟨vM, hoM⟩, hT1, hT2⟩ := hI
      dsimp only [kstB] at F4 N4 hI hoM hT1 hT2
      replace hT1 := ltN hT1
      replace hT2 := ltN hT2
      have hba := hI.ba
      have hbb := hI.bb
      (repeat' (first | (k_unfold; (try dsimp only)) | (k_end; wrow_close) | ((with_reducible show wpAny _ _ (call (Value.ref _) _) _ _ _); first | ((with_reducible show wpAny _ _ (call (Value.ref 624) _) _ _ _); walk_at "nz:rt"; (· k_dflt (apply sum_spec <;> walk_at "nz:p")); walk_at "nz:rt2") | ((with_reducible show wpAny _ _ (call (Value.ref 556) _) _ _ _); walk_at "nz:row"; (· k_dflt (exact scaled_spec' (by walk_at "nz:row1") (by first | assumption | exact fac_m | exact fac_led (by k_mem)) (by first | assumption | exact RowOk.scm (by assumption)))); walk_at "nz:row2") | ((with_reducible show wpAny _ _ (call (Value.ref 556) _) _ _ _); walk_at "nz:row"; (· k_dflt (exact scnorm_spec (by walk_at "nz:row1") (by first | with_reducible assumption | exact fac_one' (by assumption) | exact fac_led' (by assumption) (by k_mem)) (by assumption))); walk_at "nz:row2")) | walk1 | (dsimp only; walk1) | (leave1; (try dsimp only)) | fail "no step"))
      · (rename Fr _ _ _ _ => F5); (rename News _ _ _ _ => N5)
        (rename _ = Data.cell (some (Value.int (a.fdiv b) _)) => dM)
        (rename Obj => oM2)
        (rename b ≠ 0 => hb0)
        clear F4 N4
        have hA : All2 IntV [Value.int a ta, Value.int x tx, Value.int y ty] [a, x, y] := .cons ⟨_, rfl⟩ (.cons ⟨_, rfl⟩ (.cons ⟨_, rfl⟩ .nil))
        have hB : All2 IntV [Value.int b tb, Value.int z tz, Value.int v tv] [b, z, v] := .cons ⟨_, rfl⟩ (.cons ⟨_, rfl⟩ (.cons ⟨_, rfl⟩ .nil))
        have hq : -1152921504606846976 < a.fdiv b ∧ a.fdiv b < 1152921504606846976 := by have := fdiv_le (a := a) hb0; omega
        refine comp_zipTT F5 N5 (by k_mem) (by k_mem) (by exact Nat.le_trans (Nat.min_le_left _ _) (show 3 ≤ sizeLine by decide)) (base := []) (binds_pair rfl rfl rfl rfl (by decide) (fun i v h hv N => pairs_ints hA hB hv)) (fun i ys nx => All2 IntV ys ((List.zipWith (fun p q => p - a.fdiv b * q) [a, x, y] [b, z, v]).take i)) .nil (fun _ h => nomatch h) ?_ ?_
        · intro i v ys nx own wr C oC D m₂ h tk E' hi hBd hC hJ hyl F6 N6 off hwo
          obtain ⟨x1, x2, hma, hmb, k, t, k', t', hk, rfl, hk', rfl⟩ := hBd
          obtain ⟨hs, hK⟩ := hJ
          clear F5 N5
          have hcell : (L' + 1 + 1, oM2) ∈ nx := hs _ (by k_mem)
          have hmul : IntMulOk (a.fdiv b) k' := mulOk_left hq
          refine tests_nil ?_
          (repeat' (first | (k_unfold; (try dsimp only)) | (k_end; wrow_close) | ((with_reducible show wpAny _ _ (call (Value.ref _) _) _ _ _); first | ((with_reducible show wpAny _ _ (call (Value.ref 624) _) _ _ _); walk_at "nz:rt"; (· k_dflt (apply sum_spec <;> walk_at "nz:p")); walk_at "nz:rt2") | ((with_reducible show wpAny _ _ (call (Value.ref 556) _) _ _ _); walk_at "nz:row"; (· k_dflt (exact scaled_spec' (by walk_at "nz:row1") (by first | assumption | exact fac_m | exact fac_led (by k_mem)) (by first | assumption | exact RowOk.scm (by assumption)))); walk_at "nz:row2") | ((with_reducible show wpAny _ _ (call (Value.ref 556) _) _ _ _); walk_at "nz:row"; (· k_dflt (exact scnorm_spec (by walk_at "nz:row1") (by first | with_reducible assumption | exact fac_one' (by assumption) | exact fac_led' (by assumption) (by k_mem)) (by assumption))); walk_at "nz:row2")) | walk1 | (dsimp only; walk1) | (leave1; (try dsimp only)) | fail "no step"))
          (rename Fr _ _ _ _ => F9); (rename News _ _ _ _ => N9)
          refine nz_cend0 F9 N9 sub_refl off ⟨hs, ?_⟩
          rw [take_snoc (zip_at hk hk')]
          exact hK.snoc ⟨_, rfl⟩
        · intro D h tk ys nx N6 hne hs hK F6
          clear F5 N5
          replace hK : All2 IntV ys [a - a.fdiv b * b, x - a.fdiv b * z, y - a.fdiv b * v] := hK
          rcases hK with _ | ⟨⟨t1, rfl⟩, hK⟩
          rcases hK with _ | ⟨⟨t2, rfl⟩, hK⟩
          rcases hK with _ | ⟨⟨t3, rfl⟩, hK⟩
          cases hK
          have hlen3 : [Value.int (a - a.fdiv b * b) t1, Value.int (x - a.fdiv b * z) t2, Value.int (y - a.fdiv b * v) t3].length ≤ 1000 := by show (3 : Nat) ≤ 1000; decide
          have e2 : (T2, tupO [.int b tb, .int z tz, .int v tv]) ∈ nx := hs _ (by k_mem)
          have eM : (L' + 1 + 1, oM2) ∈ nx := hs _ (by k_mem)
          have eF : (L' + 1, oF) ∈ nx := hs _ (by k_mem)
          have eo : ∀ p ∈ own ++ (P, listOf vs.toArray kk1) :: news, p ∈ nx := fun p hp => hs p (List.mem_cons_of_mem _ (List.mem_cons_of_mem _ (List.mem_cons_of_mem _ (List.mem_cons_of_mem _ hp))))
          have hlt := pt_turn hI hb0
          (repeat' (first | (k_unfold; (try dsimp only)) | (k_end; wrow_close) | ((with_reducible show wpAny _ _ (call (Value.ref _) _) _ _ _); first | ((with_reducible show wpAny _ _ (call (Value.ref 624) _) _ _ _); walk_at "nz:rt"; (· k_dflt (apply sum_spec <;> walk_at "nz:p")); walk_at "nz:rt2") | ((with_reducible show wpAny _ _ (call (Value.ref 556) _) _ _ _); walk_at "nz:row"; (· k_dflt (exact scaled_spec' (by walk_at "nz:row1") (by first | assumption | exact fac_m | exact fac_led (by k_mem)) (by first | assumption | exact RowOk.scm (by assumption)))); walk_at "nz:row2") | ((with_reducible show wpAny _ _ (call (Value.ref 556) _) _ _ _); walk_at "nz:row"; (· k_dflt (exact scnorm_spec (by walk_at "nz:row1") (by first | with_reducible assumption | exact fac_one' (by assumption) | exact fac_led' (by assumption) (by k_mem)) (by assumption))); walk_at "nz:row2")) | walk1 | (dsimp only; walk1) | (leave1; (try dsimp only)) | fail "no step"))
          (rename Fr _ _ _ _ => F9); (rename News _ _ _ _ => N9)
          refine' nz_end ⟨oM2, T2, _, b, z, v, _, _, _, tb, tz, tv, t1, t2, t3⟩ F9 N9 sub_nil ?hn (fun _ _ h => nomatch h) ?hk ?hr ?hR
          case hk => exact List.forall_mem_cons.mpr ⟨by exact rfl, List.forall_mem_cons.mpr ⟨by exact rfl, List.forall_mem_nil _⟩⟩
          case hn => exact sub_cons (by k_mem) (sub_cons (by k_mem) (sub_cons (by k_mem) (sub_cons (by k_mem) (by repeat' first | exact sub_refl | with_reducible assumption | exact sub_nil | refine sub_cons (by k_mem) ?_ | refine sub_tail ?_ | exact sub_left | refine sub_app ?_ | refine sub_both ?_ ?_))))
          case hr => ksw_same
          case hR => exact ⟨_, hlt.2, rfl, hlt.1, ⟨_, dM⟩, hT2, lt_of_allLt (And.right (by assumption)) eM⟩
      · (rename Fr _ _ _ _ => F5); (rename News _ _ _ _ => N5)
        (rename _ = Data.cell (some (Value.int x _)) => dX)
        (rename Obj => oX)
        (rename b = 0 => hb0)
        have hx := hI.bx
        have hz1000 : zs.length ≤ 1000 := by rw [hR.len, List.length_take]; omega
        refine comp_list F5 N5 (by k_mem) (by rw [hvs.length]; exact Nat.le_trans hz1000 (by decide)) (base := []) (binds_name rfl rfl) (fun i ys nx => All2 IntV ys ((zs.take i).map (fun l => x * l))) .nil (fun _ h => nomatch h) ?_ ?_
        · intro i v ys nx own wr C oC D m₂ h tk E' hi hBd hC hJ hyl F6 N6 off hwo
          obtain ⟨hma, _, hv9⟩ := hBd
          obtain ⟨k', hk', t', rfl⟩ := hvs.get hv9
          obtain ⟨hs, hK⟩ := hJ
          clear F5 N5
          have hcell : (L' + 1, oX) ∈ nx := hs _ (by k_mem)
          have hmul : IntMulOk x k' := mulOk_left hx
          refine tests_nil ?_
          (repeat' (first | (k_unfold; (try dsimp only)) | (k_end; wrow_close) | ((with_reducible show wpAny _ _ (call (Value.ref _) _) _ _ _); first | ((with_reducible show wpAny _ _ (call (Value.ref 624) _) _ _ _); walk_at "nz:rt"; (· k_dflt (apply sum_spec <;> walk_at "nz:p")); walk_at "nz:rt2") | ((with_reducible show wpAny _ _ (call (Value.ref 556) _) _ _ _); walk_at "nz:row"; (· k_dflt (exact scaled_spec' (by walk_at "nz:row1") (by first | assumption | exact fac_m | exact fac_led (by k_mem)) (by first | assumption | exact RowOk.scm (by assumption)))); walk_at "nz:row2") | ((with_reducible show wpAny _ _ (call (Value.ref 556) _) _ _ _); walk_at "nz:row"; (· k_dflt (exact scnorm_spec (by walk_at "nz:row1") (by first | with_reducible assumption | exact fac_one' (by assumption) | exact fac_led' (by assumption) (by k_mem)) (by assumption))); walk_at "nz:row2")) | walk1 | (dsimp only; walk1) | (leave1; (try dsimp only)) | fail "no step"))
          (rename Fr _ _ _ _ => F9); (rename News _ _ _ _ => N9)
          refine nz_cend0 F9 N9 sub_refl off ⟨hs, ?_⟩
          rw [take_snoc hk', List.map_append]
          exact hK.snoc ⟨_, rfl⟩
        · intro D h tk ys nx N6 hne hs hK F6
          clear F5 N5
          rw [hvs.length, List.take_length] at hK
          have hys : ys.length + [Value.int y ty].length ≤ 2000 := by rw [hK.length, List.length_map, List.length_singleton]; omega
          have eM : (L' + 1 + 1, oM) ∈ nx := hs _ (by k_mem)
          have eX : (L' + 1, oX) ∈ nx := hs _ (by k_mem)
          have eo : ∀ p ∈ own ++ (P, listOf vs.toArray kk1) :: news, p ∈ nx := fun p hp => hs p (List.mem_cons_of_mem _ (List.mem_cons_of_mem _ (List.mem_cons_of_mem _ (List.mem_cons_of_mem _ hp))))
          have eown : ∀ p ∈ own, p ∈ nx := fun p hp => eo p (List.mem_append_left _ hp)
          have enews : ∀ p ∈ news, p ∈ nx := fun p hp => eo p (List.mem_append_right _ (List.mem_cons_of_mem _ hp))
          (repeat' (first | (k_unfold; (try dsimp only)) | (k_end; wrow_close) | ((with_reducible show wpAny _ _ (call (Value.ref _) _) _ _ _); first | ((with_reducible show wpAny _ _ (call (Value.ref 624) _) _ _ _); walk_at "nz:rt"; (· k_dflt (apply sum_spec <;> walk_at "nz:p")); walk_at "nz:rt2") | ((with_reducible show wpAny _ _ (call (Value.ref 556) _) _ _ _); walk_at "nz:row"; (· k_dflt (exact scaled_spec' (by walk_at "nz:row1") (by first | assumption | exact fac_m | exact fac_led (by k_mem)) (by first | assumption | exact RowOk.scm (by assumption)))); walk_at "nz:row2") | ((with_reducible show wpAny _ _ (call (Value.ref 556) _) _ _ _); walk_at "nz:row"; (· k_dflt (exact scnorm_spec (by walk_at "nz:row1") (by first | with_reducible assumption | exact fac_one' (by assumption) | exact fac_led' (by assumption) (by k_mem)) (by assumption))); walk_at "nz:row2")) | walk1 | (dsimp only; walk1) | (leave1; (try dsimp only)) | fail "no step"))
          (rename Fr _ _ _ _ => F9); (rename News _ _ _ _ => N9)
          (rename _ ∧ _ ∧ AllLt _ nx => hAll)
          refine' nz_end ⟨oM, oX, _, _, _, _, a, ta⟩ F9 N9 ?ho ?hn ?hw ?hk ?hr ?hR
          case hk => exact List.forall_mem_cons.mpr ⟨by exact rfl, List.forall_mem_cons.mpr ⟨by exact rfl, List.forall_mem_nil _⟩⟩
          case ho => exact (by repeat' first | exact sub_refl | with_reducible assumption | exact sub_nil | refine sub_cons (by k_mem) ?_ | refine sub_tail ?_ | exact sub_left | refine sub_app ?_ | refine sub_both ?_ ?_)
          case hn => exact sub_cons (by k_mem) (sub_cons (by k_mem) (sub_cons (by k_mem) (by repeat' first | exact sub_refl | with_reducible assumption | exact sub_nil | refine sub_cons (by k_mem) ?_ | refine sub_tail ?_ | exact sub_left | refine sub_app ?_ | refine sub_both ?_ ?_)))
          case hr => ksw_same
          case hR => exact ⟨by rw [take_snoc hn]; exact pt_snoc hR hI hb0, hK.snoc ⟨_, rfl⟩, ⟨_, hoM⟩, ⟨_, dX⟩, lt_of_allLt hAll.2.2 eM⟩
          case hw =>
            intro p hp
            rcases List.mem_cons.mp hp with rfl | hp
            · intro hpw
              obtain ⟨o, ho⟩ := hwo _ hpw
              exact Nat.lt_irrefl _ (lt_of_allLt hAll.2.2 (eown _ ho))
            rcases List.mem_cons.mp hp with rfl | hp
            · exact hw (L' + 1 + 1, o1) (List.mem_cons_of_mem _ List.mem_cons_self)
            rcases List.mem_cons.mp hp with rfl | hp
            · exact hw (L' + 1, o2) (List.mem_cons_of_mem _ (List.mem_cons_of_mem _ List.mem_cons_self))
            · exact hw p (List.mem_cons_of_mem _ (List.mem_cons_of_mem _ (List.mem_cons_of_mem _ hp)))
  · intro c u h tk hR F2 N2
    clear F1 N1
    obtain ⟨o1, o2, P, kk1, vs, zs, s1, t1⟩ := c
    obtain ⟨hR, hvs, ⟨v1, ho1⟩, ⟨v2, ho2⟩, hP⟩ := hR
    rw [hps.length, List.take_length] at hR
    dsimp only [kstB] at F2 N2 hR hvs ho1 ho2 hP
    replace hP := ltN hP
    (repeat' (first | (k_unfold; (try dsimp only)) | (k_end; wrow_close) | ((with_reducible show wpAny _ _ (call (Value.ref _) _) _ _ _); first | ((with_reducible show wpAny _ _ (call (Value.ref 624) _) _ _ _); walk_at "nz:rt"; (· k_dflt (apply sum_spec <;> walk_at "nz:p")); walk_at "nz:rt2") | ((with_reducible show wpAny _ _ (call (Value.ref 556) _) _ _ _); walk_at "nz:row"; (· k_dflt (exact scaled_spec' (by walk_at "nz:row1") (by first | assumption | exact fac_m | exact fac_led (by k_mem)) (by first | assumption | exact RowOk.scm (by assumption)))); walk_at "nz:row2") | ((with_reducible show wpAny _ _ (call (Value.ref 556) _) _ _ _); walk_at "nz:row"; (· k_dflt (exact scnorm_spec (by walk_at "nz:row1") (by first | with_reducible assumption | exact fac_one' (by assumption) | exact fac_led' (by assumption) (by k_mem)) (by assumption))); walk_at "nz:row2")) | walk1 | (dsimp only; walk1) | (leave1; (try dsimp only)) | fail "no step"))
    · exact hret _ [_, _] _ _ (by k_asm) (news_sub (by assumption) (by repeat' first | exact sub_refl | with_reducible assumption | exact sub_nil | refine sub_cons (by k_mem) ?_ | refine sub_tail ?_ | exact sub_left | refine sub_app ?_ | refine sub_both ?_ ?_)) ⟨_, _, _, _, _, _, _, rfl, List.mem_cons_self, List.mem_cons_of_mem _ List.mem_cons_self, hvs, pt_pos hR (by with_reducible assumption)⟩
    · (rename Fr _ _ _ _ => F5); (rename News _ _ _ _ => N5)
      have hz1000 : zs.length ≤ 1000 := by rw [hR.len]; exact hlen
      refine comp_list F5 N5 (by k_mem) (by rw [hvs.length]; exact Nat.le_trans hz1000 (by decide)) (base := []) (binds_name rfl rfl) (fun i ys nx => All2 IntV ys ((zs.take i).map (fun l => 0 - l))) .nil (fun _ h => nomatch h) ?_ ?_
      · intro i v ys nx own wr C oC D m₂ h tk E' hi hBd hC hJ hyl F6 N6 off hwo
        obtain ⟨hma, _, hv9⟩ := hBd
        obtain ⟨k', hk', t', rfl⟩ := hvs.get hv9
        obtain ⟨hs, hK⟩ := hJ
        clear F5 N5
        refine tests_nil ?_
        (repeat' (first | (k_unfold; (try dsimp only)) | (k_end; wrow_close) | ((with_reducible show wpAny _ _ (call (Value.ref _) _) _ _ _); first | ((with_reducible show wpAny _ _ (call (Value.ref 624) _) _ _ _); walk_at "nz:rt"; (· k_dflt (apply sum_spec <;> walk_at "nz:p")); walk_at "nz:rt2") | ((with_reducible show wpAny _ _ (call (Value.ref 556) _) _ _ _); walk_at "nz:row"; (· k_dflt (exact scaled_spec' (by walk_at "nz:row1") (by first | assumption | exact fac_m | exact fac_led (by k_mem)) (by first | assumption | exact RowOk.scm (by assumption)))); walk_at "nz:row2") | ((with_reducible show wpAny _ _ (call (Value.ref 556) _) _ _ _); walk_at "nz:row"; (· k_dflt (exact scnorm_spec (by walk_at "nz:row1") (by first | with_reducible assumption | exact fac_one' (by assumption) | exact fac_led' (by assumption) (by k_mem)) (by assumption))); walk_at "nz:row2")) | walk1 | (dsimp only; walk1) | (leave1; (try dsimp only)) | fail "no step"))
        (rename Fr _ _ _ _ => F9); (rename News _ _ _ _ => N9)
        refine nz_cend0 F9 N9 sub_refl off ⟨hs, ?_⟩
        rw [take_snoc hk', List.map_append]
        exact hK.snoc ⟨_, rfl⟩
      · intro D h tk ys nx N6 hne hs hK F6
        clear F5 N5
        rw [hvs.length, List.take_length] at hK
        have enews : ∀ p ∈ news, p ∈ nx := fun p hp => hs p (by repeat' first | with_reducible assumption | refine List.mem_cons_of_mem _ ?_)
        (repeat' (first | (k_unfold; (try dsimp only)) | (k_end; wrow_close) | ((with_reducible show wpAny _ _ (call (Value.ref _) _) _ _ _); first | ((with_reducible show wpAny _ _ (call (Value.ref 624) _) _ _ _); walk_at "nz:rt"; (· k_dflt (apply sum_spec <;> walk_at "nz:p")); walk_at "nz:rt2") | ((with_reducible show wpAny _ _ (call (Value.ref 556) _) _ _ _); walk_at "nz:row"; (· k_dflt (exact scaled_spec' (by walk_at "nz:row1") (by first | assumption | exact fac_m | exact fac_led (by k_mem)) (by first | assumption | exact RowOk.scm (by assumption)))); walk_at "nz:row2") | ((with_reducible show wpAny _ _ (call (Value.ref 556) _) _ _ _); walk_at "nz:row"; (· k_dflt (exact scnorm_spec (by walk_at "nz:row1") (by first | with_reducible assumption | exact fac_one' (by assumption) | exact fac_led' (by assumption) (by k_mem)) (by assumption))); walk_at "nz:row2")) | walk1 | (dsimp only; walk1) | (leave1; (try dsimp only)) | fail "no step"))
        exact hret _ [_, _] _ _ (by k_asm) (news_sub (by assumption) (by repeat' first | exact sub_refl | with_reducible assumption | exact sub_nil | refine sub_cons (by k_mem) ?_ | refine sub_tail ?_ | exact sub_left | refine sub_app ?_ | refine sub_both ?_ ?_)) ⟨_, _, _, _, _, _, _, rfl, List.mem_cons_self, List.mem_cons_of_mem _ List.mem_cons_self, hK, pt_neg hR (by with_reducible assumption)⟩
end
section
def eqFold (d : Int) (l : List (Int × Rat)) : Int := l.foldl (fun c t => c * (t.2.den : Int)) d
theorem eqFold_snoc (d : Int) (l : List (Int × Rat)) (x : Int × Rat) : eqFold d (l ++ [x]) = eqFold d l * (x.2.den : Int) := by simp [eqFold]
def eqBelow (row : Row) : Int := eqFold (row.b.den : Int) row.ts
def wholeNum (row : Row) (t : Int × Rat) : Int := (t.2.num * eqBelow row).fdiv (t.2.den : Int)
structure WeS where
  o : Obj
  b : Int
set_option maxHeartbeats 8000000 in
theorem wholeeq_spec {w : World} {mean : ExcName → Option Value} {mg mb : Str → Option Value} {news : Led} {a : Addr} {row : Row} (hr : RowIn news (.ref a) row) (ok : RowOk row) :
    Spec w mean mg mb 636 1 news [.ref a] (fun tl r => ∃ T P t kk vs, r = .ref T ∧ (T, tupO [.ref P, .int ((row.b.num * eqBelow row).fdiv (row.b.den : Int)) t]) ∈ tl ∧ (P, listOf vs.toArray kk) ∈ tl ∧ All2 IntV vs (row.ts.map (wholeNum row))) := by
  unfold Spec
  k_fill
  intro dp un gd cn cs a ccd cl outer A₀ base h₀ L m s Q E B F X N T hk hd hu hret
  have hlen := ok.len
  have hden := ok.den
  have hnum := ok.num
  have hbnum := ok.bnum
  have hbden := ok.bden
  have hbpos := den_pos row.b
  refine hr.at fun _ _ _ _ _ _ hra hrt hts hrb => ?_
  refine wpAny_call ?_
  k_dflt (refine' code_defC ?k1 ?k2 ?k3 ?k4 ?k5 ?kA ?kF ?kK ?k6 ?k7 ?k8 ?k9 ?kB ?kD ?_ ?c2 ?c3 ?c4; (case kA => exact rfl); (case kF => exact rfl); (case kK => assumption); (case k1 => k_asm); (case k2 => k_asm); (case k3 => k_asm); (case k4 => k_asm); (case k5 => k_asm); (case k6 => k_is); (case k7 => k_is); (case k8 => ktr_room); (case k9 => exact BindsTo.of_eq rfl); (case kB => exact rfl); (case kD => decide +kernel); (case c2 => exact rfl); (case c3 => exact rfl); (case c4 => exact rfl); k_whole; intro g' L' h' tk' cells' FG' F' N' Y' B' X' T' l1; (try k_lt l1); k_cells Y'; (try simp only [List.cons_append, List.nil_append] at N'); (try dsimp only); (try k_fold); refine fold_fr F' ?_; clear F'; intro u8 F')
  have hc1 : ∀ p ∈ news, p.1 ≠ L' + 1 := off_lt l1 (Nat.le_succ L')
  (repeat' (first | (k_unfold; (try dsimp only)) | (k_end; wrow_close) | ((with_reducible show wpAny _ _ (call (Value.ref _) _) _ _ _); first | ((with_reducible show wpAny _ _ (call (Value.ref 624) _) _ _ _); walk_at "nz:rt"; (· k_dflt (apply sum_spec <;> walk_at "nz:p")); walk_at "nz:rt2") | ((with_reducible show wpAny _ _ (call (Value.ref 556) _) _ _ _); walk_at "nz:row"; (· k_dflt (exact scaled_spec' (by walk_at "nz:row1") (by first | assumption | exact fac_m | exact fac_led (by k_mem)) (by first | assumption | exact RowOk.scm (by assumption)))); walk_at "nz:row2") | ((with_reducible show wpAny _ _ (call (Value.ref 556) _) _ _ _); walk_at "nz:row"; (· k_dflt (exact scnorm_spec (by walk_at "nz:row1") (by first | with_reducible assumption | exact fac_one' (by assumption) | exact fac_led' (by assumption) (by k_mem)) (by assumption))); walk_at "nz:row2") | ((with_reducible show wpAny _ _ (call (Value.ref 563) _) _ _ _); walk_at "nz:wf"; (· k_dflt (exact wf_spec (by walk_at "nz:row1") (by exact RowOk.den (by assumption)) (by exact RowOk.num (by assumption)) (by exact RowOk.S (by assumption)))); walk_at "nz:wf2")) | walk1 | (dsimp only; walk1) | (leave1; (try dsimp only)) | fail "no step"))
  (rename Fr _ _ _ _ => F1); (rename News _ _ _ _ => N1)
  (rename _ = Data.cell (some (Value.int (row.b.den : Int) _)) => dB)
  (rename Obj => oB)
  refine for_tup2 F1 N1 (by k_mem) (fun c : WeS => (L' + 1, c.o) :: news) (fun c => []) [Str.ofString "t", Str.ofString "factor"]
    (fun i c => c.b = eqFold (row.b.den : Int) (row.ts.take i) ∧ ∃ t, c.o.data = .cell (some (.int c.b t))) ⟨oB, _⟩ (fun c => by k_mem) (by repeat' first | exact sub_refl | with_reducible assumption | exact sub_nil | refine sub_cons (by k_mem) ?_ | refine sub_tail ?_ | exact sub_left | refine sub_app ?_ | refine sub_both ?_ ?_) (List.forall_mem_nil _) ⟨rfl, _, dB⟩ ?_ ?_
  · intro i v c u h tk own wr hi hv hR hw hown hwo F2 N2
    clear F1 N1
    obtain ⟨o, b⟩ := c
    obtain ⟨hR, tb, ho⟩ := hR
    dsimp only [kstB] at F2 N2 hw hR ho
    have hq1 := off_of hw hown (a := L' + 1) (by k_mem)
    revert v
    refine term_at hts fun _ kk' _ _ ρ _ _ hx hm1 hm2 => ?_
    have hpos := den_pos ρ
    have hden2 := hden _ (mem_at hx)
    dsimp only at hden2
    have hmul : IntMulOk b (ρ.den : Int) := mulOk_right ⟨by omega, hden2⟩
    (repeat' (first | (k_unfold; (try dsimp only)) | (k_end; wrow_close) | ((with_reducible show wpAny _ _ (call (Value.ref _) _) _ _ _); first | ((with_reducible show wpAny _ _ (call (Value.ref 624) _) _ _ _); walk_at "nz:rt"; (· k_dflt (apply sum_spec <;> walk_at "nz:p")); walk_at "nz:rt2") | ((with_reducible show wpAny _ _ (call (Value.ref 556) _) _ _ _); walk_at "nz:row"; (· k_dflt (exact scaled_spec' (by walk_at "nz:row1") (by first | assumption | exact fac_m | exact fac_led (by k_mem)) (by first | assumption | exact RowOk.scm (by assumption)))); walk_at "nz:row2") | ((with_reducible show wpAny _ _ (call (Value.ref 556) _) _ _ _); walk_at "nz:row"; (· k_dflt (exact scnorm_spec (by walk_at "nz:row1") (by first | with_reducible assumption | exact fac_one' (by assumption) | exact fac_led' (by assumption) (by k_mem)) (by assumption))); walk_at "nz:row2") | ((with_reducible show wpAny _ _ (call (Value.ref 563) _) _ _ _); walk_at "nz:wf"; (· k_dflt (exact wf_spec (by walk_at "nz:row1") (by exact RowOk.den (by assumption)) (by exact RowOk.num (by assumption)) (by exact RowOk.S (by assumption)))); walk_at "nz:wf2")) | walk1 | (dsimp only; walk1) | (leave1; (try dsimp only)) | fail "no step"))
    (rename Fr _ _ _ _ => F9); (rename News _ _ _ _ => N9)
    (rename _ = Data.cell (some (Value.int (b * (ρ.den : Int)) _)) => dB2)
    (rename Obj => oB2)
    refine' nz_end ⟨oB2, _⟩ F9 N9 ?ho ?hn ?hw ?hk ?hr ?hR
    case ho => exact (by repeat' first | exact sub_refl | with_reducible assumption | exact sub_nil | refine sub_cons (by k_mem) ?_ | refine sub_tail ?_ | exact sub_left | refine sub_app ?_ | refine sub_both ?_ ?_)
    case hn => exact sub_cons (by k_mem) (by repeat' first | exact sub_refl | with_reducible assumption | exact sub_nil | refine sub_cons (by k_mem) ?_ | refine sub_tail ?_ | exact sub_left | refine sub_app ?_ | refine sub_both ?_ ?_)
    case hk => exact List.forall_mem_nil _
    case hr => ksw_same
    case hR => exact ⟨by rw [take_snoc hx, eqFold_snoc, ← hR], _, dB2⟩
    case hw =>
      intro p hp
      rcases List.mem_cons.mp hp with rfl | hp
      · exact hw (L' + 1, o) List.mem_cons_self
      · exact hw p (List.mem_cons_of_mem _ hp)
  · intro c u h tk hR F2 N2
    clear F1 N1
    obtain ⟨o, b⟩ := c
    obtain ⟨hR, tb, ho⟩ := hR
    rw [hts.length, List.take_length] at hR
    replace hR : b = eqBelow row := hR
    dsimp only [kstB] at F2 N2 ho
    subst hR
    have hmulb : IntMulOk row.b.num (eqBelow row) := mulOk_left hbnum
    (repeat' (first | (k_unfold; (try dsimp only)) | (k_end; wrow_close) | ((with_reducible show wpAny _ _ (call (Value.ref _) _) _ _ _); first | ((with_reducible show wpAny _ _ (call (Value.ref 624) _) _ _ _); walk_at "nz:rt"; (· k_dflt (apply sum_spec <;> walk_at "nz:p")); walk_at "nz:rt2") | ((with_reducible show wpAny _ _ (call (Value.ref 556) _) _ _ _); walk_at "nz:row"; (· k_dflt (exact scaled_spec' (by walk_at "nz:row1") (by first | assumption | exact fac_m | exact fac_led (by k_mem)) (by first | assumption | exact RowOk.scm (by assumption)))); walk_at "nz:row2") | ((with_reducible show wpAny _ _ (call (Value.ref 556) _) _ _ _); walk_at "nz:row"; (· k_dflt (exact scnorm_spec (by walk_at "nz:row1") (by first | with_reducible assumption | exact fac_one' (by assumption) | exact fac_led' (by assumption) (by k_mem)) (by assumption))); walk_at "nz:row2") | ((with_reducible show wpAny _ _ (call (Value.ref 563) _) _ _ _); walk_at "nz:wf"; (· k_dflt (exact wf_spec (by walk_at "nz:row1") (by exact RowOk.den (by assumption)) (by exact RowOk.num (by assumption)) (by exact RowOk.S (by assumption)))); walk_at "nz:wf2")) | walk1 | (dsimp only; walk1) | (leave1; (try dsimp only)) | fail "no step"))
    (rename Fr _ _ _ _ => F3); (rename News _ _ _ _ => N3)
    have hsz : ∀ {vs : List Value}, All2 (TermIn news) vs row.ts → vs.length ≤ sizeLine := fun h => by rw [h.length]; exact Nat.le_trans hlen (by decide)
    refine comp_tup F3 N3 (by k_mem) (hsz hts) (base := news) (binds_pair rfl rfl rfl rfl (by decide) (fun i v h hv N => pairs_terms hts hv N)) (fun i ys nx => All2 IntV ys ((row.ts.take i).map (wholeNum row))) .nil (by repeat' first | exact sub_refl | with_reducible assumption | exact sub_nil | refine sub_cons (by k_mem) ?_ | refine sub_tail ?_ | exact sub_left | refine sub_app ?_ | refine sub_both ?_ ?_) ?_ ?_
    · intro i v ys nx own wr C oC D m₂ h tk E' hi hBd hC hJ hyl F4 N4 off hwo
      refine bd_terms hBd fun k t r ρ u u' hma hmb hx hm => ?_
      obtain ⟨hs, hK⟩ := hJ
      clear F3 N3
      have hcell : (L' + 1, o) ∈ nx := hs _ (by k_mem)
      have hm' := hs _ (List.mem_cons_of_mem _ hm)
      have hpos := den_pos ρ
      have hden2 := hden _ (mem_at hx)
      have hnum2 := hnum _ (mem_at hx)
      dsimp only at hden2 hnum2
      have hmul : IntMulOk ρ.num (eqBelow row) := mulOk_left hnum2
      refine tests_nil ?_
      (repeat' (first | (k_unfold; (try dsimp only)) | (k_end; wrow_close) | ((with_reducible show wpAny _ _ (call (Value.ref _) _) _ _ _); first | ((with_reducible show wpAny _ _ (call (Value.ref 624) _) _ _ _); walk_at "nz:rt"; (· k_dflt (apply sum_spec <;> walk_at "nz:p")); walk_at "nz:rt2") | ((with_reducible show wpAny _ _ (call (Value.ref 556) _) _ _ _); walk_at "nz:row"; (· k_dflt (exact scaled_spec' (by walk_at "nz:row1") (by first | assumption | exact fac_m | exact fac_led (by k_mem)) (by first | assumption | exact RowOk.scm (by assumption)))); walk_at "nz:row2") | ((with_reducible show wpAny _ _ (call (Value.ref 556) _) _ _ _); walk_at "nz:row"; (· k_dflt (exact scnorm_spec (by walk_at "nz:row1") (by first | with_reducible assumption | exact fac_one' (by assumption) | exact fac_led' (by assumption) (by k_mem)) (by assumption))); walk_at "nz:row2") | ((with_reducible show wpAny _ _ (call (Value.ref 563) _) _ _ _); walk_at "nz:wf"; (· k_dflt (exact wf_spec (by walk_at "nz:row1") (by exact RowOk.den (by assumption)) (by exact RowOk.num (by assumption)) (by exact RowOk.S (by assumption)))); walk_at "nz:wf2")) | walk1 | (dsimp only; walk1) | (leave1; (try dsimp only)) | fail "no step"))
      (rename Fr _ _ _ _ => F9); (rename News _ _ _ _ => N9)
      refine nz_cend0 F9 N9 sub_refl off ⟨hs, ?_⟩
      rw [take_snoc hx, List.map_append]
      exact hK.snoc ⟨_, rfl⟩
    · intro D h tk ys nx N4 hne hs hK F4
      clear F3 N3
      rw [hts.length, List.take_length] at hK
      have hrb' := hs _ (by first | exact List.mem_cons_of_mem _ hrb | k_mem)
      have hra' := hs _ (by first | exact List.mem_cons_of_mem _ hra | k_mem)
      have hcell : (L' + 1, o) ∈ nx := hs _ (by k_mem)
      have hsn : ∀ p ∈ news, p ∈ nx := fun p hp => hs p (by first | exact List.mem_cons_of_mem _ hp | k_mem)
      (repeat' (first | (k_unfold; (try dsimp only)) | (k_end; wrow_close) | ((with_reducible show wpAny _ _ (call (Value.ref _) _) _ _ _); first | ((with_reducible show wpAny _ _ (call (Value.ref 624) _) _ _ _); walk_at "nz:rt"; (· k_dflt (apply sum_spec <;> walk_at "nz:p")); walk_at "nz:rt2") | ((with_reducible show wpAny _ _ (call (Value.ref 556) _) _ _ _); walk_at "nz:row"; (· k_dflt (exact scaled_spec' (by walk_at "nz:row1") (by first | assumption | exact fac_m | exact fac_led (by k_mem)) (by first | assumption | exact RowOk.scm (by assumption)))); walk_at "nz:row2") | ((with_reducible show wpAny _ _ (call (Value.ref 556) _) _ _ _); walk_at "nz:row"; (· k_dflt (exact scnorm_spec (by walk_at "nz:row1") (by first | with_reducible assumption | exact fac_one' (by assumption) | exact fac_led' (by assumption) (by k_mem)) (by assumption))); walk_at "nz:row2") | ((with_reducible show wpAny _ _ (call (Value.ref 563) _) _ _ _); walk_at "nz:wf"; (· k_dflt (exact wf_spec (by walk_at "nz:row1") (by exact RowOk.den (by assumption)) (by exact RowOk.num (by assumption)) (by exact RowOk.S (by assumption)))); walk_at "nz:wf2")) | walk1 | (dsimp only; walk1) | (leave1; (try dsimp only)) | fail "no step"))
      exact hret _ [_, _] _ _ (by k_asm) (news_sub (by assumption) (by repeat' first | exact sub_refl | with_reducible assumption | exact sub_nil | refine sub_cons (by k_mem) ?_ | refine sub_tail ?_ | exact sub_left | refine sub_app ?_ | refine sub_both ?_ ?_)) ⟨_, _, _, _, _, rfl, List.mem_cons_self, List.mem_cons_of_mem _ List.mem_cons_self, hK⟩
theorem news_two {h₀ h : Heap} {L : Addr} {tl news : Led} {p q : Addr × Obj} (N : News h₀ L h (tl ++ news)) (m1 : p ∈ tl) (m2 : q ∈ tl) : News h₀ L h (p :: q :: news) :=
  news_sub N (sub_cons (List.mem_append_left _ m1) (sub_cons (List.mem_append_left _ m2) (sub_app sub_refl)))
section
variable {w : World} {mean : ExcName → Option Value} {mg mb : Str → Option Value} {f : Addr} {dep : Nat} {news : Led} {vs : List Value} {dp un : Nat} {gd : Option (List Code)} {cn : Str} {cs : Scope} {a : Addr} {ccd : Value} {cl : List (Str × Addr)} {outer : List Env} {A₀ : Around} {base h₀ : Heap} {L : Addr} {m : Str → Option Value} {hh : Heap} {gg : Array GenState} {dd : Drawn} {TT : Nat} {oo : OsState} {Q E : Value → Shared → Prop}
theorem use_pt {ns : List Int} (N : News h₀ L hh news) (B : Below A₀ base outer h₀) (F : Fr h₀ L hh m) (X : (pre.heap_1_39 w.params).In h₀) (T : Top pre.view_1_40 (looseW pre.view_1_40 []) mean mg mb h₀) (hk : cs.kind = .function)
    (H : Spec w mean mg mb f dep news vs (fun tl r => ∃ T P t kk' vs zs s, r = .ref T ∧ (T, tupO [.int s t, .ref P]) ∈ tl ∧ (P, listOf vs.toArray kk') ∈ tl ∧ All2 IntV vs zs ∧ PtAns ns s zs)) (hd : dp + dep < recursionLimit) (hu : un + 8 * dep < cLine)
    (ret : ∀ (T P : Addr) (t : Tok) (kk : Nat) (vs : List Value) (zs : List Int) (z : Int) h' tk', Fr h₀ L h' m → News h₀ L h' ((T, tupO [.int z t, .ref P]) :: (P, listOf vs.toArray kk) :: news) → All2 IntV vs zs → PtAns ns z zs → Q (.ref T) ⟨h', gg, dd, tk', oo⟩) :
    wpAny (model PySem.Challenge.rw_nz0148_01.row.prog w) (ktrTop dp un gd cn cs L a ccd cl outer) (call (.ref f) vs) Q E ⟨hh, gg, dd, TT, oo⟩ :=
  spec_use H B F X N T hk hd hu fun r tl h' tk' F' N' hR => by
    obtain ⟨T, P, t, kk, vs, zs, z, e, m1, m2, al, an⟩ := hR
    subst e
    exact ret T P t kk vs zs z h' tk' F' (news_two N' m1 m2) al an
theorem use_we {x : Int} {zs : List Int} (N : News h₀ L hh news) (B : Below A₀ base outer h₀) (F : Fr h₀ L hh m) (X : (pre.heap_1_39 w.params).In h₀) (T : Top pre.view_1_40 (looseW pre.view_1_40 []) mean mg mb h₀) (hk : cs.kind = .function)
    (H : Spec w mean mg mb f dep news vs (fun tl r => ∃ T P t kk vs, r = .ref T ∧ (T, tupO [.ref P, .int x t]) ∈ tl ∧ (P, listOf vs.toArray kk) ∈ tl ∧ All2 IntV vs zs)) (hd : dp + dep < recursionLimit) (hu : un + 8 * dep < cLine)
    (ret : ∀ (T P : Addr) (t : Tok) (kk : Nat) (vs : List Value) h' tk', Fr h₀ L h' m → News h₀ L h' ((T, tupO [.ref P, .int x t]) :: (P, listOf vs.toArray kk) :: news) → All2 IntV vs zs → Q (.ref T) ⟨h', gg, dd, tk', oo⟩) :
    wpAny (model PySem.Challenge.rw_nz0148_01.row.prog w) (ktrTop dp un gd cn cs L a ccd cl outer) (call (.ref f) vs) Q E ⟨hh, gg, dd, TT, oo⟩ :=
  spec_use H B F X N T hk hd hu fun r tl h' tk' F' N' hR => by
    obtain ⟨T, P, t, kk, vs, e, m1, m2, al⟩ := hR
    subst e
    exact ret T P t kk vs h' tk' F' (news_two N' m1 m2) al
end
end
local macro_rules | `(tactic| walk_at "nz:pt") => `(tactic| (k_dflt (apply use_pt; walk_at "nz:asm")))
local macro_rules | `(tactic| walk_at "nz:we") => `(tactic| (k_dflt (apply use_we; walk_at "nz:asm")))
local macro_rules | `(tactic| walk_at "nz:pt2") => `(tactic| (walk_at "nz:room"; intro T9 P9 t9 kk9 vs9 zs9 z9 h9 tk9 F9 N9 hvs9 hans9; (try dsimp only); (try walk_at "nz:fold")))
local macro_rules | `(tactic| walk_at "nz:we2") => `(tactic| (walk_at "nz:room"; intro T9 P9 t9 kk9 vs9 h9 tk9 F9 N9 hvs9; (try dsimp only); (try walk_at "nz:fold")))
section
/-- what the law asks of a row that is not empty -/
structure FacOk (row : Row) : Prop where
  nz : row.ts = [] ∨ NonZ row
  num : ∀ t ∈ row.ts, -1152921504606846976 < (t.2 * wfF row.ts).num ∧ (t.2 * wfF row.ts).num < 1152921504606846976
  fnum : -1152921504606846976 < (wfF row.ts).num ∧ (wfF row.ts).num < 1152921504606846976
  fden : ((wfF row.ts).den : Int) < 1152921504606846976
section
variable {prog : Program} {w : World} {A : Around} {E : Value → Shared → Prop} {s : Shared} {h₀ : Heap} {L : Addr} {a b : Addr} {news all : Led} {Q : Value → Shared → Prop} {vs : List Value} {ts : List (Int × Rat)}
theorem nz_eqNil (N : News h₀ L s.heap all) (hm : (a, tupO vs) ∈ news) (hts : All2 (TermIn news) vs ts) (hs : ∀ p ∈ news, p ∈ all) (hb : (b, tupO []) ∈ all) (hu : A.units + 64 < cLine) {r : Bool} (hr : ts = [] ↔ r = true)
    (h : Q (.bool r) s) : wpAny (model prog w) A (compareOp .Eq (.ref a) (.ref b)) Q E s := by
  refine nz_eq N ((TermsIn.mk hm hts).mono hs).dat (DatIn.tuple hb .nil) (termsD_ok ts 5) rfl hu ?_ h
  rw [← hr]
  exact ⟨fun e => by unfold termsD at e; injection e with e; exact List.map_eq_nil_iff.mp e, fun e => by rw [e]; rfl⟩
theorem nz_neNil (N : News h₀ L s.heap all) (hm : (a, tupO vs) ∈ news) (hts : All2 (TermIn news) vs ts) (hs : ∀ p ∈ news, p ∈ all) (hb : (b, tupO []) ∈ all) (hu : A.units + 64 < cLine) {r : Bool} (hr : ts = [] ↔ r = true)
    (h : Q (.bool (!r)) s) : wpAny (model prog w) A (compareOp .NotEq (.ref a) (.ref b)) Q E s := by
  refine nz_ne N ((TermsIn.mk hm hts).mono hs).dat (DatIn.tuple hb .nil) (termsD_ok ts 5) rfl hu ?_ h
  rw [← hr]
  exact ⟨fun e => by unfold termsD at e; injection e with e; exact List.map_eq_nil_iff.mp e, fun e => by rw [e]; rfl⟩
theorem nz_eqOne {m : Str → Option Value} {t u : Tok} (F : Fr h₀ L s.heap m) (X : (pre.heap_1_39 w.params).In h₀) (N : News h₀ L s.heap all) (hb : (b, tupO [.int 1 t, .int 1 u]) ∈ all) (hu : A.units + 64 < cLine)
    (h : Q (.bool true) s) : wpAny (model prog w) A (compareOp .Eq (.ref 71) (.ref b)) Q E s := by
  have h1 : s.heap.get? 71 = some _ := (X.keeps F.keep) 71 _ (by exact rfl)
  refine eq_dataH (Reads.tuple h1 rfl rfl (.cons (.int 1 _) (.cons (.int 1 _) .nil))) (reads_tuple_at (N.get hb) rfl rfl (.cons (.int 1 t) (.cons (.int 1 u) .nil))) (by decide) (by decide) hu ?_
  exact h
theorem RtIn.mk' {a : Addr} {ρ σ : Rat} {t u : Tok} (e : ρ = σ) (h : (a, tupO [.int ρ.num t, .int (ρ.den : Int) u]) ∈ news) : RtIn news (.ref a) σ := by
  subst e
  exact .mk h
theorem nz_eqEmpty {k k' : Nat} (N : News h₀ L s.heap all) (ha : (a, listOf [].toArray k) ∈ all) (hb : (b, listOf [].toArray k') ∈ all) (hu : A.units + 64 < cLine) (h : Q (.bool true) s) :
    wpAny (model prog w) A (compareOp .Eq (.ref a) (.ref b)) Q E s :=
  nz_eq N (DatIn.list ha .nil) (DatIn.list hb .nil) rfl rfl hu (r := true) ⟨fun _ => rfl, fun _ => rfl⟩ h
theorem nz_neEmpty {k k' : Nat} (N : News h₀ L s.heap all) (ha : (a, listOf [].toArray k) ∈ all) (hb : (b, listOf [].toArray k') ∈ all) (hu : A.units + 64 < cLine) (h : Q (.bool false) s) :
    wpAny (model prog w) A (compareOp .NotEq (.ref a) (.ref b)) Q E s :=
  nz_ne N (DatIn.list ha .nil) (DatIn.list hb .nil) rfl rfl hu (r := true) ⟨fun _ => rfl, fun _ => rfl⟩ h
theorem pt_one {ns ps : List Int} {s : Int} (h : PtAns ns s ps) (hp : ∀ d : Int, (∀ n ∈ ns, d ∣ n) → d ∣ 1) : s = 1 := Int.eq_one_of_dvd_one h.nn (hp s h.dvd)
theorem nil_t (h : ts = []) : ts = [] ↔ true = true := ⟨fun _ => rfl, fun _ => h⟩
theorem nil_f (h : ts ≠ []) : ts = [] ↔ false = true := ⟨fun e => absurd e h, fun e => nomatch e⟩
end
end
local macro_rules | `(tactic| walk_at "compareOp Eq ref ref") => `(tactic| (k_here; first | (k_dflt (refine nz_eqNil (by k_asm) (by with_reducible assumption) (by with_reducible assumption) (by walk_at "nz:sub") (by k_mem) (by ktr_units) (by first | exact nil_t (by with_reducible assumption) | exact nil_f (by with_reducible assumption)) ?_)) | (k_dflt (refine nz_eqEmpty (by k_asm) (by k_mem) (by k_mem) (by ktr_units) ?_)) | refine nz_stop ?_))
local macro_rules | `(tactic| walk_at "compareOp NotEq ref ref") => `(tactic| (k_here; first | (k_dflt (refine nz_neNil (by k_asm) (by with_reducible assumption) (by with_reducible assumption) (by walk_at "nz:sub") (by k_mem) (by ktr_units) (by first | exact nil_t (by with_reducible assumption) | exact nil_f (by with_reducible assumption)) ?_)) | (k_dflt (refine nz_neEmpty (by k_asm) (by k_mem) (by k_mem) (by ktr_units) ?_)) | refine nz_stop ?_))
section
set_option maxHeartbeats 8000000 in
theorem factor_spec {w : World} {mean : ExcName → Option Value} {mg mb : Str → Option Value} {news : Led} {a : Addr} {row : Row} (hr : RowIn news (.ref a) row) (ok : RowOk row) (fok : FacOk row) :
    Spec w mean mg mb 641 10 news [.ref a] (fun tl r => r = .bool true) := by
  unfold Spec
  k_fill
  intro dp un gd cn cs a ccd cl outer A₀ base h₀ L m s Q E B F X N T hk hd hu hret
  have hlen := ok.len
  have hden := ok.den
  have hnum := ok.num
  have hrow := hr
  refine hr.at fun _ _ _ _ _ _ hra hrt hts hrb => ?_
  refine wpAny_call ?_
  k_dflt (refine' code_defC ?k1 ?k2 ?k3 ?k4 ?k5 ?kA ?kF ?kK ?k6 ?k7 ?k8 ?k9 ?kB ?kD ?_ ?c2 ?c3 ?c4; (case kA => exact rfl); (case kF => exact rfl); (case kK => assumption); (case k1 => k_asm); (case k2 => k_asm); (case k3 => k_asm); (case k4 => k_asm); (case k5 => k_asm); (case k6 => k_is); (case k7 => k_is); (case k8 => ktr_room); (case k9 => exact BindsTo.of_eq rfl); (case kB => exact rfl); (case kD => decide +kernel); (case c2 => exact rfl); (case c3 => exact rfl); (case c4 => exact rfl); k_whole; intro g' L' h' tk' cells' FG' F' N' Y' B' X' T' l1; (try k_lt l1); k_cells Y'; (try simp only [List.cons_append, List.nil_append] at N'); (try dsimp only); (try k_fold); refine fold_fr F' ?_; clear F'; intro u8 F')
  have hc1 : ∀ p ∈ news, p.1 ≠ L' + 1 := off_lt l1 (Nat.le_succ L')
  (repeat' (first | (k_unfold; (try dsimp only)) | (k_end; wrow_close) | ((with_reducible show wpAny _ _ (call (Value.ref _) _) _ _ _); first | ((with_reducible show wpAny _ _ (call (Value.ref 617) _) _ _ _); walk_at "nz:pt"; (· k_dflt (apply point_spec <;> walk_at "nz:p")); walk_at "nz:pt2") | ((with_reducible show wpAny _ _ (call (Value.ref 636) _) _ _ _); walk_at "nz:we"; (· k_dflt (apply wholeeq_spec <;> walk_at "nz:p")); walk_at "nz:we2") | ((with_reducible show wpAny _ _ (call (Value.ref 624) _) _ _ _); walk_at "nz:rt"; (· k_dflt (apply sum_spec <;> walk_at "nz:p")); walk_at "nz:rt2") | ((with_reducible show wpAny _ _ (call (Value.ref 556) _) _ _ _); walk_at "nz:row"; (· k_dflt (exact scaled_spec' (by walk_at "nz:row1") (by first | assumption | exact fac_m | exact fac_led (by k_mem)) (by first | assumption | exact RowOk.scm (by assumption)))); walk_at "nz:row2") | ((with_reducible show wpAny _ _ (call (Value.ref 556) _) _ _ _); walk_at "nz:row"; (· k_dflt (exact scnorm_spec (by walk_at "nz:row1") (by first | with_reducible assumption | exact fac_one' (by assumption) | exact fac_led' (by assumption) (by k_mem)) (by assumption))); walk_at "nz:row2") | ((with_reducible show wpAny _ _ (call (Value.ref 563) _) _ _ _); walk_at "nz:wf"; (· k_dflt (exact wf_spec (by walk_at "nz:row1") (by exact RowOk.den (by assumption)) (by exact RowOk.num (by assumption)) (by exact RowOk.S (by assumption)))); walk_at "nz:wf2") | ((with_reducible show wpAny _ _ (call (Value.ref 612) _) _ _ _); walk_at "nz:rt"; (· k_dflt (apply low_spec <;> omega)); walk_at "nz:rt2")) | walk1 | (dsimp only; walk1) | (leave1; (try dsimp only)) | fail "no step"))
  · (rename Fr _ _ _ _ => F1); (rename News _ _ _ _ => N1)
    unfold NzStop
    refine nz_eqOne F1 (by with_reducible assumption) N1 (by k_mem) (by ktr_units) ?_
    (repeat' (first | (k_unfold; (try dsimp only)) | (k_end; wrow_close) | ((with_reducible show wpAny _ _ (call (Value.ref _) _) _ _ _); first | ((with_reducible show wpAny _ _ (call (Value.ref 617) _) _ _ _); walk_at "nz:pt"; (· k_dflt (apply point_spec <;> walk_at "nz:p")); walk_at "nz:pt2") | ((with_reducible show wpAny _ _ (call (Value.ref 636) _) _ _ _); walk_at "nz:we"; (· k_dflt (apply wholeeq_spec <;> walk_at "nz:p")); walk_at "nz:we2") | ((with_reducible show wpAny _ _ (call (Value.ref 624) _) _ _ _); walk_at "nz:rt"; (· k_dflt (apply sum_spec <;> walk_at "nz:p")); walk_at "nz:rt2") | ((with_reducible show wpAny _ _ (call (Value.ref 556) _) _ _ _); walk_at "nz:row"; (· k_dflt (exact scaled_spec' (by walk_at "nz:row1") (by first | assumption | exact fac_m | exact fac_led (by k_mem)) (by first | assumption | exact RowOk.scm (by assumption)))); walk_at "nz:row2") | ((with_reducible show wpAny _ _ (call (Value.ref 556) _) _ _ _); walk_at "nz:row"; (· k_dflt (exact scnorm_spec (by walk_at "nz:row1") (by first | with_reducible assumption | exact fac_one' (by assumption) | exact fac_led' (by assumption) (by k_mem)) (by assumption))); walk_at "nz:row2") | ((with_reducible show wpAny _ _ (call (Value.ref 563) _) _ _ _); walk_at "nz:wf"; (· k_dflt (exact wf_spec (by walk_at "nz:row1") (by exact RowOk.den (by assumption)) (by exact RowOk.num (by assumption)) (by exact RowOk.S (by assumption)))); walk_at "nz:wf2") | ((with_reducible show wpAny _ _ (call (Value.ref 612) _) _ _ _); walk_at "nz:rt"; (· k_dflt (apply low_spec <;> omega)); walk_at "nz:rt2")) | walk1 | (dsimp only; walk1) | (leave1; (try dsimp only)) | fail "no step"))
    exact hret _ [_, _, _] _ _ (by k_asm) (news_sub (by assumption) (by repeat' first | exact sub_refl | with_reducible assumption | exact sub_nil | refine sub_cons (by k_mem) ?_ | refine sub_tail ?_ | exact sub_left | refine sub_app ?_ | refine sub_both ?_ ?_)) rfl
  · (rename Fr _ _ _ _ => F1); (rename News _ _ _ _ => N1)
    (rename row.ts ≠ [] => hz)
    (rename _ = Data.cell (some (Value.ref _)) => dB)
    (rename Obj => oB)
    have hn := fok.nz.resolve_left hz
    have hW : wfF row.ts = wf row.ts := by rw [wfF, if_neg hz]
    have hfn := fok.fnum
    have hfd := fok.fden
    have hdd := ok.fden
    have hfm := fok.num
    rw [hW] at hfn hfd hdd hfm
    have hfp := den_pos (wf row.ts)
    have hsz : ∀ {vs : List Value}, All2 (TermIn news) vs row.ts → vs.length ≤ sizeLine := fun h => by rw [h.length]; exact Nat.le_trans hlen (by decide)
    refine comp_tup F1 N1 (by k_mem) (hsz hts) (base := news) (binds_pair rfl rfl rfl rfl (by decide) (fun i v h hv N => pairs_terms hts hv N)) (fun i ys nx => All2 (RtIn nx) ys ((row.ts.take i).map (fun t => t.2 * wf row.ts))) .nil (by repeat' first | exact sub_refl | with_reducible assumption | exact sub_nil | refine sub_cons (by k_mem) ?_ | refine sub_tail ?_ | exact sub_left | refine sub_app ?_ | refine sub_both ?_ ?_) ?_ ?_
    · intro i v ys nx own wr C oC D m₂ h tk E' hi hBd hC hJ hyl F4 N4 off hwo
      refine bd_terms hBd fun k t r ρ u u' hma hmb hx hm => ?_
      obtain ⟨hs, hK⟩ := hJ
      clear F1 N1
      have hcell : (L' + 1, oB) ∈ nx := hs _ (by k_mem)
      have hfac := hs _ (List.mem_cons_of_mem _ List.mem_cons_self)
      have hm' := hs _ (List.mem_cons_of_mem _ (List.mem_cons_of_mem _ (List.mem_cons_of_mem _ hm)))
      have hpos := den_pos ρ
      have hden2 := hden _ (mem_at hx)
      have hnum2 := hnum _ (mem_at hx)
      have hdd2 := hdd _ (mem_at hx)
      dsimp only at hden2 hnum2 hdd2
      have hmul1 : IntMulOk (wf row.ts).num ρ.num := mulOk_left hfn
      have hmul2 : IntMulOk ((wf row.ts).den : Int) (ρ.den : Int) := mulOk_left ⟨by omega, hfd⟩
      have hdp : 0 < ((wf row.ts).den : Int) * (ρ.den : Int) := Int.mul_pos hfp hpos
      have hdl : ((wf row.ts).den : Int) * (ρ.den : Int) < 1152921504606846976 := by rw [Int.mul_comm]; exact hdd2
      refine tests_nil ?_
      (repeat' (first | (k_unfold; (try dsimp only)) | (k_end; wrow_close) | ((with_reducible show wpAny _ _ (call (Value.ref _) _) _ _ _); first | ((with_reducible show wpAny _ _ (call (Value.ref 617) _) _ _ _); walk_at "nz:pt"; (· k_dflt (apply point_spec <;> walk_at "nz:p")); walk_at "nz:pt2") | ((with_reducible show wpAny _ _ (call (Value.ref 636) _) _ _ _); walk_at "nz:we"; (· k_dflt (apply wholeeq_spec <;> walk_at "nz:p")); walk_at "nz:we2") | ((with_reducible show wpAny _ _ (call (Value.ref 624) _) _ _ _); walk_at "nz:rt"; (· k_dflt (apply sum_spec <;> walk_at "nz:p")); walk_at "nz:rt2") | ((with_reducible show wpAny _ _ (call (Value.ref 556) _) _ _ _); walk_at "nz:row"; (· k_dflt (exact scaled_spec' (by walk_at "nz:row1") (by first | assumption | exact fac_m | exact fac_led (by k_mem)) (by first | assumption | exact RowOk.scm (by assumption)))); walk_at "nz:row2") | ((with_reducible show wpAny _ _ (call (Value.ref 556) _) _ _ _); walk_at "nz:row"; (· k_dflt (exact scnorm_spec (by walk_at "nz:row1") (by first | with_reducible assumption | exact fac_one' (by assumption) | exact fac_led' (by assumption) (by k_mem)) (by assumption))); walk_at "nz:row2") | ((with_reducible show wpAny _ _ (call (Value.ref 563) _) _ _ _); walk_at "nz:wf"; (· k_dflt (exact wf_spec (by walk_at "nz:row1") (by exact RowOk.den (by assumption)) (by exact RowOk.num (by assumption)) (by exact RowOk.S (by assumption)))); walk_at "nz:wf2") | ((with_reducible show wpAny _ _ (call (Value.ref 612) _) _ _ _); walk_at "nz:rt"; (· k_dflt (apply low_spec <;> omega)); walk_at "nz:rt2")) | walk1 | (dsimp only; walk1) | (leave1; (try dsimp only)) | fail "no step"))
      (rename Fr _ _ _ _ => F9); (rename News _ _ _ _ => N9)
      refine nz_cend1 F9 N9 (ktn_ltOf (by simp only [AllLt, allLt_app, and_true]; with_reducible assumption)) hwo off ⟨(by repeat' first | exact sub_refl | with_reducible assumption | exact sub_nil | refine sub_cons (by k_mem) ?_ | refine sub_tail ?_ | exact sub_left | refine sub_app ?_ | refine sub_both ?_ ?_), ?_⟩
      rw [take_snoc hx, List.map_append]
      refine All2.snoc (RtIn.mk' ?_ List.mem_cons_self) (hK.imp fun _ _ k => k.mono (by repeat' first | exact sub_refl | with_reducible assumption | exact sub_nil | refine sub_cons (by k_mem) ?_ | refine sub_tail ?_ | exact sub_left | refine sub_app ?_ | refine sub_both ?_ ?_))
      show _ = ρ * wf row.ts
      rw [Rat.mul_comm, mul_val]
    · intro D h tk ys nx N4 hne hs hK F4
      clear F1 N1
      rw [hts.length, List.take_length] at hK
      have hcell : (L' + 1, oB) ∈ nx := hs _ (by k_mem)
      have hfac := hs _ (List.mem_cons_of_mem _ List.mem_cons_self)
      have hwp : 0 < (wf row.ts).num := rat_num_pos (wf_pos hn.1 hn.2)
      have hpr := wf_prim hn.1 hn.2
      have hsn : ∀ p ∈ news, p ∈ nx := fun p hp => hs p (by repeat' first | with_reducible assumption | refine List.mem_cons_of_mem _ ?_)
      have hyl : ys.length ≤ 1000 := by rw [hK.length, List.length_map]; exact hlen
      have hys : ys.length ≤ sizeLine := Nat.le_trans hyl (by decide)
      (repeat' (first | (k_unfold; (try dsimp only)) | (k_end; wrow_close) | ((with_reducible show wpAny _ _ (call (Value.ref _) _) _ _ _); first | ((with_reducible show wpAny _ _ (call (Value.ref 617) _) _ _ _); walk_at "nz:pt"; (· k_dflt (apply point_spec <;> walk_at "nz:p")); walk_at "nz:pt2") | ((with_reducible show wpAny _ _ (call (Value.ref 636) _) _ _ _); walk_at "nz:we"; (· k_dflt (apply wholeeq_spec <;> walk_at "nz:p")); walk_at "nz:we2") | ((with_reducible show wpAny _ _ (call (Value.ref 624) _) _ _ _); walk_at "nz:rt"; (· k_dflt (apply sum_spec <;> walk_at "nz:p")); walk_at "nz:rt2") | ((with_reducible show wpAny _ _ (call (Value.ref 556) _) _ _ _); walk_at "nz:row"; (· k_dflt (exact scaled_spec' (by walk_at "nz:row1") (by first | assumption | exact fac_m | exact fac_led (by k_mem)) (by first | assumption | exact RowOk.scm (by assumption)))); walk_at "nz:row2") | ((with_reducible show wpAny _ _ (call (Value.ref 556) _) _ _ _); walk_at "nz:row"; (· k_dflt (exact scnorm_spec (by walk_at "nz:row1") (by first | with_reducible assumption | exact fac_one' (by assumption) | exact fac_led' (by assumption) (by k_mem)) (by assumption))); walk_at "nz:row2") | ((with_reducible show wpAny _ _ (call (Value.ref 563) _) _ _ _); walk_at "nz:wf"; (· k_dflt (exact wf_spec (by walk_at "nz:row1") (by exact RowOk.den (by assumption)) (by exact RowOk.num (by assumption)) (by exact RowOk.S (by assumption)))); walk_at "nz:wf2") | ((with_reducible show wpAny _ _ (call (Value.ref 612) _) _ _ _); walk_at "nz:rt"; (· k_dflt (apply low_spec <;> omega)); walk_at "nz:rt2")) | walk1 | (dsimp only; walk1) | (leave1; (try dsimp only)) | fail "no step"))
      (rename Fr _ _ _ _ => F5); (rename News _ _ _ _ => N5)
      refine comp_list F5 N5 (by k_mem) hys (base := []) (binds_name rfl rfl) (fun i zs nx' => zs = []) rfl (fun _ h => nomatch h) ?_ ?_
      · intro i v zs nx' own wr C oC D' m₂ h tk E' hi hBd hC hJ hyl F6 N6 off hwo
        obtain ⟨hma, _, hv9⟩ := hBd
        obtain ⟨x, hx, hR⟩ := hK.get hv9
        obtain ⟨hs', rfl⟩ := hJ
        cases hR with | mk hR =>
        have hR' := hs' _ (List.mem_cons_of_mem _ hR)
        have hd1 : (x.den : Int) = 1 := by
          obtain ⟨t, ht, rfl⟩ := List.mem_map.mp (mem_at hx)
          have := hpr.1 _ (List.mem_map_of_mem (f := scaleT (wf row.ts)) ht)
          exact congrArg Int.ofNat this
        clear F5 N5
        (repeat' (first | (k_unfold; (try dsimp only)) | (k_end; wrow_close) | ((with_reducible show wpAny _ _ (call (Value.ref _) _) _ _ _); first | ((with_reducible show wpAny _ _ (call (Value.ref 617) _) _ _ _); walk_at "nz:pt"; (· k_dflt (apply point_spec <;> walk_at "nz:p")); walk_at "nz:pt2") | ((with_reducible show wpAny _ _ (call (Value.ref 636) _) _ _ _); walk_at "nz:we"; (· k_dflt (apply wholeeq_spec <;> walk_at "nz:p")); walk_at "nz:we2") | ((with_reducible show wpAny _ _ (call (Value.ref 624) _) _ _ _); walk_at "nz:rt"; (· k_dflt (apply sum_spec <;> walk_at "nz:p")); walk_at "nz:rt2") | ((with_reducible show wpAny _ _ (call (Value.ref 556) _) _ _ _); walk_at "nz:row"; (· k_dflt (exact scaled_spec' (by walk_at "nz:row1") (by first | assumption | exact fac_m | exact fac_led (by k_mem)) (by first | assumption | exact RowOk.scm (by assumption)))); walk_at "nz:row2") | ((with_reducible show wpAny _ _ (call (Value.ref 556) _) _ _ _); walk_at "nz:row"; (· k_dflt (exact scnorm_spec (by walk_at "nz:row1") (by first | with_reducible assumption | exact fac_one' (by assumption) | exact fac_led' (by assumption) (by k_mem)) (by assumption))); walk_at "nz:row2") | ((with_reducible show wpAny _ _ (call (Value.ref 563) _) _ _ _); walk_at "nz:wf"; (· k_dflt (exact wf_spec (by walk_at "nz:row1") (by exact RowOk.den (by assumption)) (by exact RowOk.num (by assumption)) (by exact RowOk.S (by assumption)))); walk_at "nz:wf2") | ((with_reducible show wpAny _ _ (call (Value.ref 612) _) _ _ _); walk_at "nz:rt"; (· k_dflt (apply low_spec <;> omega)); walk_at "nz:rt2")) | walk1 | (dsimp only; walk1) | (leave1; (try dsimp only)) | fail "no step"))
        (rename Fr _ _ _ _ => F9); (rename News _ _ _ _ => N9)
        exact nz_cend0 F9 N9 sub_refl off ⟨hs', rfl⟩
      · intro D' h tk zs nx' N6 hne' hs' hZ F6
        clear F5 N5
        subst hZ
        have eD : (D, lst ys) ∈ nx' := hs' _ (by k_mem)
        (repeat' (first | (k_unfold; (try dsimp only)) | (k_end; wrow_close) | ((with_reducible show wpAny _ _ (call (Value.ref _) _) _ _ _); first | ((with_reducible show wpAny _ _ (call (Value.ref 617) _) _ _ _); walk_at "nz:pt"; (· k_dflt (apply point_spec <;> walk_at "nz:p")); walk_at "nz:pt2") | ((with_reducible show wpAny _ _ (call (Value.ref 636) _) _ _ _); walk_at "nz:we"; (· k_dflt (apply wholeeq_spec <;> walk_at "nz:p")); walk_at "nz:we2") | ((with_reducible show wpAny _ _ (call (Value.ref 624) _) _ _ _); walk_at "nz:rt"; (· k_dflt (apply sum_spec <;> walk_at "nz:p")); walk_at "nz:rt2") | ((with_reducible show wpAny _ _ (call (Value.ref 556) _) _ _ _); walk_at "nz:row"; (· k_dflt (exact scaled_spec' (by walk_at "nz:row1") (by first | assumption | exact fac_m | exact fac_led (by k_mem)) (by first | assumption | exact RowOk.scm (by assumption)))); walk_at "nz:row2") | ((with_reducible show wpAny _ _ (call (Value.ref 556) _) _ _ _); walk_at "nz:row"; (· k_dflt (exact scnorm_spec (by walk_at "nz:row1") (by first | with_reducible assumption | exact fac_one' (by assumption) | exact fac_led' (by assumption) (by k_mem)) (by assumption))); walk_at "nz:row2") | ((with_reducible show wpAny _ _ (call (Value.ref 563) _) _ _ _); walk_at "nz:wf"; (· k_dflt (exact wf_spec (by walk_at "nz:row1") (by exact RowOk.den (by assumption)) (by exact RowOk.num (by assumption)) (by exact RowOk.S (by assumption)))); walk_at "nz:wf2") | ((with_reducible show wpAny _ _ (call (Value.ref 612) _) _ _ _); walk_at "nz:rt"; (· k_dflt (apply low_spec <;> omega)); walk_at "nz:rt2")) | walk1 | (dsimp only; walk1) | (leave1; (try dsimp only)) | fail "no step"))
        (rename Fr _ _ _ _ => F7); (rename News _ _ _ _ => N7)
        have hK' : All2 (RtIn nx') ys (row.ts.map (fun t => t.2 * wf row.ts)) := hK.imp fun _ _ k => k.mono fun p hp => hs' p (List.mem_cons_of_mem _ hp)
        refine comp_list F7 N7 (by k_mem) hys (base := []) (binds_name rfl rfl) (fun i zs nx => All2 IntV zs (((row.ts.map (fun t => t.2 * wf row.ts)).take i).map (fun x => x.num))) .nil (fun _ h => nomatch h) ?_ ?_
        · intro i v zs nx2 own wr C oC D2 m₂ h tk E' hi hBd hC hJ hyl F8 N8 off hwo
          obtain ⟨hma, _, hv9⟩ := hBd
          obtain ⟨x, hx, hR⟩ := hK'.get hv9
          obtain ⟨hs2, hZ⟩ := hJ
          cases hR with | mk hR =>
          have hR2 := hs2 _ (List.mem_cons_of_mem _ (List.mem_cons_of_mem _ hR))
          clear F7 N7
          refine tests_nil ?_
          (repeat' (first | (k_unfold; (try dsimp only)) | (k_end; wrow_close) | ((with_reducible show wpAny _ _ (call (Value.ref _) _) _ _ _); first | ((with_reducible show wpAny _ _ (call (Value.ref 617) _) _ _ _); walk_at "nz:pt"; (· k_dflt (apply point_spec <;> walk_at "nz:p")); walk_at "nz:pt2") | ((with_reducible show wpAny _ _ (call (Value.ref 636) _) _ _ _); walk_at "nz:we"; (· k_dflt (apply wholeeq_spec <;> walk_at "nz:p")); walk_at "nz:we2") | ((with_reducible show wpAny _ _ (call (Value.ref 624) _) _ _ _); walk_at "nz:rt"; (· k_dflt (apply sum_spec <;> walk_at "nz:p")); walk_at "nz:rt2") | ((with_reducible show wpAny _ _ (call (Value.ref 556) _) _ _ _); walk_at "nz:row"; (· k_dflt (exact scaled_spec' (by walk_at "nz:row1") (by first | assumption | exact fac_m | exact fac_led (by k_mem)) (by first | assumption | exact RowOk.scm (by assumption)))); walk_at "nz:row2") | ((with_reducible show wpAny _ _ (call (Value.ref 556) _) _ _ _); walk_at "nz:row"; (· k_dflt (exact scnorm_spec (by walk_at "nz:row1") (by first | with_reducible assumption | exact fac_one' (by assumption) | exact fac_led' (by assumption) (by k_mem)) (by assumption))); walk_at "nz:row2") | ((with_reducible show wpAny _ _ (call (Value.ref 563) _) _ _ _); walk_at "nz:wf"; (· k_dflt (exact wf_spec (by walk_at "nz:row1") (by exact RowOk.den (by assumption)) (by exact RowOk.num (by assumption)) (by exact RowOk.S (by assumption)))); walk_at "nz:wf2") | ((with_reducible show wpAny _ _ (call (Value.ref 612) _) _ _ _); walk_at "nz:rt"; (· k_dflt (apply low_spec <;> omega)); walk_at "nz:rt2")) | walk1 | (dsimp only; walk1) | (leave1; (try dsimp only)) | fail "no step"))
          (rename Fr _ _ _ _ => F9); (rename News _ _ _ _ => N9)
          refine nz_cend0 F9 N9 sub_refl off ⟨hs2, ?_⟩
          rw [take_snoc hx, List.map_append]
          exact hZ.snoc ⟨_, rfl⟩
        · intro D2 h tk zs nx2 N8 hne2 hs2 hZ F8
          clear F7 N7
          rw [hK.length, List.take_length] at hZ
          have hzl : ((row.ts.map (fun t => t.2 * wf row.ts)).map (fun x => x.num)).length ≤ 1000 := by rw [List.length_map, List.length_map]; exact hlen
          have hzb : ∀ n ∈ (row.ts.map (fun t => t.2 * wf row.ts)).map (fun x => x.num), -1152921504606846976 < n ∧ n < 1152921504606846976 := fun n hn => by
            obtain ⟨x, hx, rfl⟩ := List.mem_map.mp hn
            obtain ⟨t, ht, rfl⟩ := List.mem_map.mp hx
            exact hfm t ht
          have hnn : ∀ p ∈ news, p ∈ nx2 := fun p hp => hs2 p (by first | exact List.mem_cons_of_mem _ (List.mem_cons_of_mem _ (hs' p (List.mem_cons_of_mem _ (hsn p hp)))))
          (repeat' (first | (k_unfold; (try dsimp only)) | (k_end; wrow_close) | ((with_reducible show wpAny _ _ (call (Value.ref _) _) _ _ _); first | ((with_reducible show wpAny _ _ (call (Value.ref 617) _) _ _ _); walk_at "nz:pt"; (· k_dflt (apply point_spec <;> walk_at "nz:p")); walk_at "nz:pt2") | ((with_reducible show wpAny _ _ (call (Value.ref 636) _) _ _ _); walk_at "nz:we"; (· k_dflt (apply wholeeq_spec <;> walk_at "nz:p")); walk_at "nz:we2") | ((with_reducible show wpAny _ _ (call (Value.ref 624) _) _ _ _); walk_at "nz:rt"; (· k_dflt (apply sum_spec <;> walk_at "nz:p")); walk_at "nz:rt2") | ((with_reducible show wpAny _ _ (call (Value.ref 556) _) _ _ _); walk_at "nz:row"; (· k_dflt (exact scaled_spec' (by walk_at "nz:row1") (by first | assumption | exact fac_m | exact fac_led (by k_mem)) (by first | assumption | exact RowOk.scm (by assumption)))); walk_at "nz:row2") | ((with_reducible show wpAny _ _ (call (Value.ref 556) _) _ _ _); walk_at "nz:row"; (· k_dflt (exact scnorm_spec (by walk_at "nz:row1") (by first | with_reducible assumption | exact fac_one' (by assumption) | exact fac_led' (by assumption) (by k_mem)) (by assumption))); walk_at "nz:row2") | ((with_reducible show wpAny _ _ (call (Value.ref 563) _) _ _ _); walk_at "nz:wf"; (· k_dflt (exact wf_spec (by walk_at "nz:row1") (by exact RowOk.den (by assumption)) (by exact RowOk.num (by assumption)) (by exact RowOk.S (by assumption)))); walk_at "nz:wf2") | ((with_reducible show wpAny _ _ (call (Value.ref 612) _) _ _ _); walk_at "nz:rt"; (· k_dflt (apply low_spec <;> omega)); walk_at "nz:rt2")) | walk1 | (dsimp only; walk1) | (leave1; (try dsimp only)) | fail "no step"))
          (rename PtAns _ _ _ => ha)
          have h1 := pt_one ha fun d hd => hpr.2 d fun t ht => by
            obtain ⟨u, hu, rfl⟩ := List.mem_map.mp ht
            exact hd _ (List.mem_map_of_mem (f := fun x : Rat => x.num) (List.mem_map_of_mem (f := fun t : Int × Rat => t.2 * wf row.ts) hu))
          exact hret _ [] _ _ (by k_asm) (news_sub (by assumption) (by repeat' first | exact sub_refl | with_reducible assumption | exact sub_nil | refine sub_cons (by k_mem) ?_ | refine sub_tail ?_ | exact sub_left | refine sub_app ?_ | refine sub_both ?_ ?_)) (by rw [h1]; rfl)
end
section
structure TightFacts (srt : List Int) (row : Row) (fts : List (Int × Rat)) (fb : Rat) : Prop where
  ids : fts.map (fun t => t.1) = row.ts.map (fun t => t.1)
  prim : Prim fts
  bden : (fb.den : Int) = 1
  num : ∀ t ∈ fts, -1152921504606846976 < t.2.num ∧ t.2.num < 1152921504606846976
  bnum : -1152921504606846976 < fb.num ∧ fb.num < 1152921504606846975
  reach : ∀ ws : List Int, ws.length = fts.length → dot (fts.map fun t => t.2.num) ws = 1 → holds row.rel (rsum row.ts (ws.map fun l => fb.num * l)) row.b = true
  beyond : ∀ ws : List Int, ws.length = fts.length → dot (fts.map fun t => t.2.num) ws = 1 → holds row.rel (rsum row.ts (ws.map fun l => (fb.num + 1) * l)) row.b = false
  hope : row.hopeless srt = false
structure SumOk (row : Row) : Prop where
  prod : ∀ i, dprod (row.ts.take i) < 1152921504606846976
theorem ints_dat {news : Led} : ∀ {vs : List Value} {ks : List Int}, All2 IntV vs ks → DatAll news vs (ks.map Dat.int)
  | _, _, .nil => .nil
  | _, _, .cons ⟨_, h⟩ r => by subst h; exact .cons (.int _ _) (ints_dat r)
theorem ints_ok (ks : List Int) (n : Nat) : kqdOk (n + 1) (.list (ks.map Dat.int)) = true := by
  simp only [kqdOk, List.all_map, List.all_eq_true]
  intro t _
  simp [kqdOk]
theorem nz_neInts {prog : Program} {w : World} {A : Around} {E : Value → Shared → Prop} {s : Shared} {h₀ : Heap} {L : Addr} {a b : Addr} {all : Led} {Q : Value → Shared → Prop} {vs ws : List Value} {ks ms : List Int} {k k' : Nat} (N : News h₀ L s.heap all)
    (ha : (a, listOf vs.toArray k) ∈ all) (hb : (b, listOf ws.toArray k') ∈ all) (hv : All2 IntV vs ks) (hw : All2 IntV ws ms) (he : ks = ms) (hu : A.units + 64 < cLine) (h : Q (.bool false) s) :
    wpAny (model prog w) A (compareOp .NotEq (.ref a) (.ref b)) Q E s := by
  subst he
  exact nz_ne N (DatIn.list ha (ints_dat hv)) (DatIn.list hb (ints_dat hw)) (ints_ok ks 7) (ints_ok ks 7) hu (r := true) ⟨fun _ => rfl, fun _ => rfl⟩ h
set_option maxHeartbeats 8000000 in
theorem istight_spec {w : World} {mean : ExcName → Option Value} {mg mb : Str → Option Value} {news : Led} {a f : Addr} {bk : Value} {row : Row} {srt : List Int} {fts : List (Int × Rat)} {fb : Rat} (hB : BankIn w news bk srt) (hr : RowIn news (.ref a) row) (hf : RowIn news (.ref f) ⟨fts, Str.ofString "<=", fb⟩) (ok : RowOk row) (wok : WholeOk srt row.whole) (sok : SumOk row)
    (tf : TightFacts srt row fts fb) : Spec w mean mg mb 646 14 news [bk, .ref a, .ref f] (fun tl r => r = .bool true) := by
  unfold Spec
  k_fill
  intro dp un gd cn cs a ccd cl outer A₀ base h₀ L m s Q E B F X N T hk hd hu hret
  have hlen := ok.len
  have hden := ok.den
  have hnum := ok.num
  have hprod := sok.prod
  have hbn := ok.bnum
  have hbd := ok.bden
  have hrow := hr
  have hfl : fts.length = row.ts.length := by have := congrArg List.length tf.ids; rwa [List.length_map, List.length_map] at this
  have hfn := tf.num
  have hfb := tf.bnum
  have hfd := tf.bden
  have hfp := tf.prim
  refine hr.at fun _ _ _ _ _ _ hra hrt hts hrb => ?_
  refine hf.at fun _ _ _ _ _ _ hfa hft hfs hfr => ?_
  dsimp only at hfa hfs hfr
  have hsz : ∀ {vs : List Value}, All2 (TermIn news) vs row.ts → vs.length ≤ sizeLine := fun h => by rw [h.length]; exact Nat.le_trans hlen (by decide)
  have hszf : ∀ {vs : List Value}, All2 (TermIn news) vs fts → vs.length ≤ sizeLine := fun h => by rw [h.length, hfl]; exact Nat.le_trans hlen (by decide)
  refine wpAny_call ?_
  k_dflt (refine' code_defC ?k1 ?k2 ?k3 ?k4 ?k5 ?kA ?kF ?kK ?k6 ?k7 ?k8 ?k9 ?kB ?kD ?_ ?c2 ?c3 ?c4; (case kA => exact rfl); (case kF => exact rfl); (case kK => assumption); (case k1 => k_asm); (case k2 => k_asm); (case k3 => k_asm); (case k4 => k_asm); (case k5 => k_asm); (case k6 => k_is); (case k7 => k_is); (case k8 => ktr_room); (case k9 => exact BindsTo.of_eq rfl); (case kB => exact rfl); (case kD => decide +kernel); (case c2 => exact rfl); (case c3 => exact rfl); (case c4 => exact rfl); k_whole; intro g' L' h' tk' cells' FG' F' N' Y' B' X' T' l1; (try k_lt l1); k_cells Y'; (try simp only [List.cons_append, List.nil_append] at N'); (try dsimp only); (try k_fold); refine fold_fr F' ?_; clear F'; intro u8 F')
  have hc1 : ∀ p ∈ news, p.1 ≠ L' + 1 := off_lt l1 (Nat.le_succ L')
  (repeat' (first | (k_unfold; (try dsimp only)) | (k_end; wrow_close) | ((with_reducible show wpAny _ _ (call (Value.ref _) _) _ _ _); first | ((with_reducible show wpAny _ _ (call (Value.ref 641) _) _ _ _); walk_at "nz:true"; (· k_dflt (apply factor_spec <;> walk_at "nz:p")); walk_at "nz:true2") | ((with_reducible show wpAny _ _ (call (Value.ref 617) _) _ _ _); walk_at "nz:pt"; (· k_dflt (apply point_spec <;> walk_at "nz:p")); walk_at "nz:pt2") | ((with_reducible show wpAny _ _ (call (Value.ref 636) _) _ _ _); walk_at "nz:we"; (· k_dflt (apply wholeeq_spec <;> walk_at "nz:p")); walk_at "nz:we2") | ((with_reducible show wpAny _ _ (call (Value.ref 631) _) _ _ _); walk_at "nz:val"; (· k_dflt (apply holds_spec <;> walk_at "nz:p")); walk_at "nz:bool2") | ((with_reducible show wpAny _ _ (call (Value.ref 624) _) _ _ _); walk_at "nz:rt"; (· k_dflt (apply sum_spec <;> walk_at "nz:p")); walk_at "nz:rt2") | ((with_reducible show wpAny _ _ (call (Value.ref 598) _) _ _ _); walk_at "nz:val"; (· k_dflt (apply hopeless_spec <;> walk_at "nz:p")); walk_at "nz:bool2") | ((with_reducible show wpAny _ _ (call (Value.ref 584) _) _ _ _); walk_at "nz:row"; (· k_dflt (apply tight_spec <;> walk_at "nz:p")); walk_at "nz:row2") | ((with_reducible show wpAny _ _ (call (Value.ref 261) _) _ _ _); walk_at "nz:val"; (· k_dflt (apply sort_spec <;> walk_at "nz:p")); walk_at "nz:intx2") | ((with_reducible show wpAny _ _ (call (Value.ref 570) _) _ _ _); walk_at "nz:row"; (· k_dflt (apply wholerow_spec <;> walk_at "nz:p")); walk_at "nz:row2") | ((with_reducible show wpAny _ _ (call (Value.ref 556) _) _ _ _); walk_at "nz:row"; (· k_dflt (exact scaled_spec' (by walk_at "nz:row1") (by first | assumption | exact fac_m | exact fac_led (by k_mem)) (by first | assumption | exact RowOk.scm (by assumption)))); walk_at "nz:row2") | ((with_reducible show wpAny _ _ (call (Value.ref 556) _) _ _ _); walk_at "nz:row"; (· k_dflt (exact scnorm_spec (by walk_at "nz:row1") (by first | with_reducible assumption | exact fac_one' (by assumption) | exact fac_led' (by assumption) (by k_mem)) (by assumption))); walk_at "nz:row2") | ((with_reducible show wpAny _ _ (call (Value.ref 563) _) _ _ _); walk_at "nz:wf"; (· k_dflt (exact wf_spec (by walk_at "nz:row1") (by exact RowOk.den (by assumption)) (by exact RowOk.num (by assumption)) (by exact RowOk.S (by assumption)))); walk_at "nz:wf2")) | walk1 | (dsimp only; walk1) | (leave1; (try dsimp only)) | fail "no step"))
  (rename Fr _ _ _ _ => F1); (rename News _ _ _ _ => N1)
  (rename Obj => oF)
  refine comp_tup F1 N1 (by k_mem) (hszf hfs) (base := news) (binds_pair rfl rfl rfl rfl (by decide) (fun i v h hv N => pairs_terms hfs hv N)) (fun i ys nx => All2 IntV ys ((fts.take i).map (fun t => t.1))) .nil (by repeat' first | exact sub_refl | with_reducible assumption | exact sub_nil | refine sub_cons (by k_mem) ?_ | refine sub_tail ?_ | exact sub_left | refine sub_app ?_ | refine sub_both ?_ ?_) ?_ ?_
  · intro i v ys nx own wr C oC D m₂ h tk E' hi hBd hC hJ hyl F4 N4 off hwo
    refine bd_terms hBd fun k t r ρ u u' hma hmb hx hm => ?_
    obtain ⟨hs, hK⟩ := hJ
    clear F1 N1
    refine tests_nil ?_
    (repeat' (first | (k_unfold; (try dsimp only)) | (k_end; wrow_close) | ((with_reducible show wpAny _ _ (call (Value.ref _) _) _ _ _); first | ((with_reducible show wpAny _ _ (call (Value.ref 641) _) _ _ _); walk_at "nz:true"; (· k_dflt (apply factor_spec <;> walk_at "nz:p")); walk_at "nz:true2") | ((with_reducible show wpAny _ _ (call (Value.ref 617) _) _ _ _); walk_at "nz:pt"; (· k_dflt (apply point_spec <;> walk_at "nz:p")); walk_at "nz:pt2") | ((with_reducible show wpAny _ _ (call (Value.ref 636) _) _ _ _); walk_at "nz:we"; (· k_dflt (apply wholeeq_spec <;> walk_at "nz:p")); walk_at "nz:we2") | ((with_reducible show wpAny _ _ (call (Value.ref 631) _) _ _ _); walk_at "nz:val"; (· k_dflt (apply holds_spec <;> walk_at "nz:p")); walk_at "nz:bool2") | ((with_reducible show wpAny _ _ (call (Value.ref 624) _) _ _ _); walk_at "nz:rt"; (· k_dflt (apply sum_spec <;> walk_at "nz:p")); walk_at "nz:rt2") | ((with_reducible show wpAny _ _ (call (Value.ref 598) _) _ _ _); walk_at "nz:val"; (· k_dflt (apply hopeless_spec <;> walk_at "nz:p")); walk_at "nz:bool2") | ((with_reducible show wpAny _ _ (call (Value.ref 584) _) _ _ _); walk_at "nz:row"; (· k_dflt (apply tight_spec <;> walk_at "nz:p")); walk_at "nz:row2") | ((with_reducible show wpAny _ _ (call (Value.ref 261) _) _ _ _); walk_at "nz:val"; (· k_dflt (apply sort_spec <;> walk_at "nz:p")); walk_at "nz:intx2") | ((with_reducible show wpAny _ _ (call (Value.ref 570) _) _ _ _); walk_at "nz:row"; (· k_dflt (apply wholerow_spec <;> walk_at "nz:p")); walk_at "nz:row2") | ((with_reducible show wpAny _ _ (call (Value.ref 556) _) _ _ _); walk_at "nz:row"; (· k_dflt (exact scaled_spec' (by walk_at "nz:row1") (by first | assumption | exact fac_m | exact fac_led (by k_mem)) (by first | assumption | exact RowOk.scm (by assumption)))); walk_at "nz:row2") | ((with_reducible show wpAny _ _ (call (Value.ref 556) _) _ _ _); walk_at "nz:row"; (· k_dflt (exact scnorm_spec (by walk_at "nz:row1") (by first | with_reducible assumption | exact fac_one' (by assumption) | exact fac_led' (by assumption) (by k_mem)) (by assumption))); walk_at "nz:row2") | ((with_reducible show wpAny _ _ (call (Value.ref 563) _) _ _ _); walk_at "nz:wf"; (· k_dflt (exact wf_spec (by walk_at "nz:row1") (by exact RowOk.den (by assumption)) (by exact RowOk.num (by assumption)) (by exact RowOk.S (by assumption)))); walk_at "nz:wf2")) | walk1 | (dsimp only; walk1) | (leave1; (try dsimp only)) | fail "no step"))
    (rename Fr _ _ _ _ => F9); (rename News _ _ _ _ => N9)
    refine nz_cend0 F9 N9 sub_refl off ⟨hs, ?_⟩
    rw [take_snoc hx, List.map_append]
    exact hK.snoc ⟨_, rfl⟩
  intro D1 h tk ys1 nx1 N1' hne1 hs1 hK1 F1'
  clear F1 N1
  rw [hfs.length, List.take_length] at hK1
  have N2 := news_sub N1' (show ∀ p ∈ (D1, lst ys1) :: (L' + 1, oF) :: news, p ∈ (D1, lst ys1) :: nx1 from sub_cons List.mem_cons_self (sub_cons (List.mem_cons_of_mem _ (hs1 _ List.mem_cons_self)) (sub_tail fun p hp => hs1 p (List.mem_cons_of_mem _ hp))))
  clear N1'
  (repeat' (first | (k_unfold; (try dsimp only)) | (k_end; wrow_close) | ((with_reducible show wpAny _ _ (call (Value.ref _) _) _ _ _); first | ((with_reducible show wpAny _ _ (call (Value.ref 641) _) _ _ _); walk_at "nz:true"; (· k_dflt (apply factor_spec <;> walk_at "nz:p")); walk_at "nz:true2") | ((with_reducible show wpAny _ _ (call (Value.ref 617) _) _ _ _); walk_at "nz:pt"; (· k_dflt (apply point_spec <;> walk_at "nz:p")); walk_at "nz:pt2") | ((with_reducible show wpAny _ _ (call (Value.ref 636) _) _ _ _); walk_at "nz:we"; (· k_dflt (apply wholeeq_spec <;> walk_at "nz:p")); walk_at "nz:we2") | ((with_reducible show wpAny _ _ (call (Value.ref 631) _) _ _ _); walk_at "nz:val"; (· k_dflt (apply holds_spec <;> walk_at "nz:p")); walk_at "nz:bool2") | ((with_reducible show wpAny _ _ (call (Value.ref 624) _) _ _ _); walk_at "nz:rt"; (· k_dflt (apply sum_spec <;> walk_at "nz:p")); walk_at "nz:rt2") | ((with_reducible show wpAny _ _ (call (Value.ref 598) _) _ _ _); walk_at "nz:val"; (· k_dflt (apply hopeless_spec <;> walk_at "nz:p")); walk_at "nz:bool2") | ((with_reducible show wpAny _ _ (call (Value.ref 584) _) _ _ _); walk_at "nz:row"; (· k_dflt (apply tight_spec <;> walk_at "nz:p")); walk_at "nz:row2") | ((with_reducible show wpAny _ _ (call (Value.ref 261) _) _ _ _); walk_at "nz:val"; (· k_dflt (apply sort_spec <;> walk_at "nz:p")); walk_at "nz:intx2") | ((with_reducible show wpAny _ _ (call (Value.ref 570) _) _ _ _); walk_at "nz:row"; (· k_dflt (apply wholerow_spec <;> walk_at "nz:p")); walk_at "nz:row2") | ((with_reducible show wpAny _ _ (call (Value.ref 556) _) _ _ _); walk_at "nz:row"; (· k_dflt (exact scaled_spec' (by walk_at "nz:row1") (by first | assumption | exact fac_m | exact fac_led (by k_mem)) (by first | assumption | exact RowOk.scm (by assumption)))); walk_at "nz:row2") | ((with_reducible show wpAny _ _ (call (Value.ref 556) _) _ _ _); walk_at "nz:row"; (· k_dflt (exact scnorm_spec (by walk_at "nz:row1") (by first | with_reducible assumption | exact fac_one' (by assumption) | exact fac_led' (by assumption) (by k_mem)) (by assumption))); walk_at "nz:row2") | ((with_reducible show wpAny _ _ (call (Value.ref 563) _) _ _ _); walk_at "nz:wf"; (· k_dflt (exact wf_spec (by walk_at "nz:row1") (by exact RowOk.den (by assumption)) (by exact RowOk.num (by assumption)) (by exact RowOk.S (by assumption)))); walk_at "nz:wf2")) | walk1 | (dsimp only; walk1) | (leave1; (try dsimp only)) | fail "no step"))
  (rename Fr _ _ _ _ => F1); (rename News _ _ _ _ => N1)
  refine comp_tup F1 N1 (by k_mem) (hsz hts) (base := news) (binds_pair rfl rfl rfl rfl (by decide) (fun i v h hv N => pairs_terms hts hv N)) (fun i ys nx => All2 IntV ys ((row.ts.take i).map (fun t => t.1))) .nil (by repeat' first | exact sub_refl | with_reducible assumption | exact sub_nil | refine sub_cons (by k_mem) ?_ | refine sub_tail ?_ | exact sub_left | refine sub_app ?_ | refine sub_both ?_ ?_) ?_ ?_
  · intro i v ys nx own wr C oC D m₂ h tk E' hi hBd hC hJ hyl F4 N4 off hwo
    refine bd_terms hBd fun k t r ρ u u' hma hmb hx hm => ?_
    obtain ⟨hs, hK⟩ := hJ
    clear F1 N1
    refine tests_nil ?_
    (repeat' (first | (k_unfold; (try dsimp only)) | (k_end; wrow_close) | ((with_reducible show wpAny _ _ (call (Value.ref _) _) _ _ _); first | ((with_reducible show wpAny _ _ (call (Value.ref 641) _) _ _ _); walk_at "nz:true"; (· k_dflt (apply factor_spec <;> walk_at "nz:p")); walk_at "nz:true2") | ((with_reducible show wpAny _ _ (call (Value.ref 617) _) _ _ _); walk_at "nz:pt"; (· k_dflt (apply point_spec <;> walk_at "nz:p")); walk_at "nz:pt2") | ((with_reducible show wpAny _ _ (call (Value.ref 636) _) _ _ _); walk_at "nz:we"; (· k_dflt (apply wholeeq_spec <;> walk_at "nz:p")); walk_at "nz:we2") | ((with_reducible show wpAny _ _ (call (Value.ref 631) _) _ _ _); walk_at "nz:val"; (· k_dflt (apply holds_spec <;> walk_at "nz:p")); walk_at "nz:bool2") | ((with_reducible show wpAny _ _ (call (Value.ref 624) _) _ _ _); walk_at "nz:rt"; (· k_dflt (apply sum_spec <;> walk_at "nz:p")); walk_at "nz:rt2") | ((with_reducible show wpAny _ _ (call (Value.ref 598) _) _ _ _); walk_at "nz:val"; (· k_dflt (apply hopeless_spec <;> walk_at "nz:p")); walk_at "nz:bool2") | ((with_reducible show wpAny _ _ (call (Value.ref 584) _) _ _ _); walk_at "nz:row"; (· k_dflt (apply tight_spec <;> walk_at "nz:p")); walk_at "nz:row2") | ((with_reducible show wpAny _ _ (call (Value.ref 261) _) _ _ _); walk_at "nz:val"; (· k_dflt (apply sort_spec <;> walk_at "nz:p")); walk_at "nz:intx2") | ((with_reducible show wpAny _ _ (call (Value.ref 570) _) _ _ _); walk_at "nz:row"; (· k_dflt (apply wholerow_spec <;> walk_at "nz:p")); walk_at "nz:row2") | ((with_reducible show wpAny _ _ (call (Value.ref 556) _) _ _ _); walk_at "nz:row"; (· k_dflt (exact scaled_spec' (by walk_at "nz:row1") (by first | assumption | exact fac_m | exact fac_led (by k_mem)) (by first | assumption | exact RowOk.scm (by assumption)))); walk_at "nz:row2") | ((with_reducible show wpAny _ _ (call (Value.ref 556) _) _ _ _); walk_at "nz:row"; (· k_dflt (exact scnorm_spec (by walk_at "nz:row1") (by first | with_reducible assumption | exact fac_one' (by assumption) | exact fac_led' (by assumption) (by k_mem)) (by assumption))); walk_at "nz:row2") | ((with_reducible show wpAny _ _ (call (Value.ref 563) _) _ _ _); walk_at "nz:wf"; (· k_dflt (exact wf_spec (by walk_at "nz:row1") (by exact RowOk.den (by assumption)) (by exact RowOk.num (by assumption)) (by exact RowOk.S (by assumption)))); walk_at "nz:wf2")) | walk1 | (dsimp only; walk1) | (leave1; (try dsimp only)) | fail "no step"))
    (rename Fr _ _ _ _ => F9); (rename News _ _ _ _ => N9)
    refine nz_cend0 F9 N9 sub_refl off ⟨hs, ?_⟩
    rw [take_snoc hx, List.map_append]
    exact hK.snoc ⟨_, rfl⟩
  intro D2 h tk ys2 nx2 N2' hne2 hs2 hK2 F2'
  clear F1 N1
  rw [hts.length, List.take_length] at hK2
  have N3 := news_sub N2' (show ∀ p ∈ (D2, lst ys2) :: (D1, lst ys1) :: (L' + 1, oF) :: news, p ∈ (D2, lst ys2) :: nx2 from sub_cons List.mem_cons_self (sub_tail hs2))
  clear N2'
  (repeat' (first | (k_unfold; (try dsimp only)) | (k_end; wrow_close) | ((with_reducible show wpAny _ _ (call (Value.ref _) _) _ _ _); first | ((with_reducible show wpAny _ _ (call (Value.ref 641) _) _ _ _); walk_at "nz:true"; (· k_dflt (apply factor_spec <;> walk_at "nz:p")); walk_at "nz:true2") | ((with_reducible show wpAny _ _ (call (Value.ref 617) _) _ _ _); walk_at "nz:pt"; (· k_dflt (apply point_spec <;> walk_at "nz:p")); walk_at "nz:pt2") | ((with_reducible show wpAny _ _ (call (Value.ref 636) _) _ _ _); walk_at "nz:we"; (· k_dflt (apply wholeeq_spec <;> walk_at "nz:p")); walk_at "nz:we2") | ((with_reducible show wpAny _ _ (call (Value.ref 631) _) _ _ _); walk_at "nz:val"; (· k_dflt (apply holds_spec <;> walk_at "nz:p")); walk_at "nz:bool2") | ((with_reducible show wpAny _ _ (call (Value.ref 624) _) _ _ _); walk_at "nz:rt"; (· k_dflt (apply sum_spec <;> walk_at "nz:p")); walk_at "nz:rt2") | ((with_reducible show wpAny _ _ (call (Value.ref 598) _) _ _ _); walk_at "nz:val"; (· k_dflt (apply hopeless_spec <;> walk_at "nz:p")); walk_at "nz:bool2") | ((with_reducible show wpAny _ _ (call (Value.ref 584) _) _ _ _); walk_at "nz:row"; (· k_dflt (apply tight_spec <;> walk_at "nz:p")); walk_at "nz:row2") | ((with_reducible show wpAny _ _ (call (Value.ref 261) _) _ _ _); walk_at "nz:val"; (· k_dflt (apply sort_spec <;> walk_at "nz:p")); walk_at "nz:intx2") | ((with_reducible show wpAny _ _ (call (Value.ref 570) _) _ _ _); walk_at "nz:row"; (· k_dflt (apply wholerow_spec <;> walk_at "nz:p")); walk_at "nz:row2") | ((with_reducible show wpAny _ _ (call (Value.ref 556) _) _ _ _); walk_at "nz:row"; (· k_dflt (exact scaled_spec' (by walk_at "nz:row1") (by first | assumption | exact fac_m | exact fac_led (by k_mem)) (by first | assumption | exact RowOk.scm (by assumption)))); walk_at "nz:row2") | ((with_reducible show wpAny _ _ (call (Value.ref 556) _) _ _ _); walk_at "nz:row"; (· k_dflt (exact scnorm_spec (by walk_at "nz:row1") (by first | with_reducible assumption | exact fac_one' (by assumption) | exact fac_led' (by assumption) (by k_mem)) (by assumption))); walk_at "nz:row2") | ((with_reducible show wpAny _ _ (call (Value.ref 563) _) _ _ _); walk_at "nz:wf"; (· k_dflt (exact wf_spec (by walk_at "nz:row1") (by exact RowOk.den (by assumption)) (by exact RowOk.num (by assumption)) (by exact RowOk.S (by assumption)))); walk_at "nz:wf2")) | walk1 | (dsimp only; walk1) | (leave1; (try dsimp only)) | fail "no step"))
  (rename Fr _ _ _ _ => F1); (rename News _ _ _ _ => N1)
  unfold NzStop
  refine nz_neInts N1 (by k_mem) (by k_mem) hK1 hK2 tf.ids (by ktr_units) ?_
  (repeat' (first | (k_unfold; (try dsimp only)) | (k_end; wrow_close) | ((with_reducible show wpAny _ _ (call (Value.ref _) _) _ _ _); first | ((with_reducible show wpAny _ _ (call (Value.ref 641) _) _ _ _); walk_at "nz:true"; (· k_dflt (apply factor_spec <;> walk_at "nz:p")); walk_at "nz:true2") | ((with_reducible show wpAny _ _ (call (Value.ref 617) _) _ _ _); walk_at "nz:pt"; (· k_dflt (apply point_spec <;> walk_at "nz:p")); walk_at "nz:pt2") | ((with_reducible show wpAny _ _ (call (Value.ref 636) _) _ _ _); walk_at "nz:we"; (· k_dflt (apply wholeeq_spec <;> walk_at "nz:p")); walk_at "nz:we2") | ((with_reducible show wpAny _ _ (call (Value.ref 631) _) _ _ _); walk_at "nz:val"; (· k_dflt (apply holds_spec <;> walk_at "nz:p")); walk_at "nz:bool2") | ((with_reducible show wpAny _ _ (call (Value.ref 624) _) _ _ _); walk_at "nz:rt"; (· k_dflt (apply sum_spec <;> walk_at "nz:p")); walk_at "nz:rt2") | ((with_reducible show wpAny _ _ (call (Value.ref 598) _) _ _ _); walk_at "nz:val"; (· k_dflt (apply hopeless_spec <;> walk_at "nz:p")); walk_at "nz:bool2") | ((with_reducible show wpAny _ _ (call (Value.ref 584) _) _ _ _); walk_at "nz:row"; (· k_dflt (apply tight_spec <;> walk_at "nz:p")); walk_at "nz:row2") | ((with_reducible show wpAny _ _ (call (Value.ref 261) _) _ _ _); walk_at "nz:val"; (· k_dflt (apply sort_spec <;> walk_at "nz:p")); walk_at "nz:intx2") | ((with_reducible show wpAny _ _ (call (Value.ref 570) _) _ _ _); walk_at "nz:row"; (· k_dflt (apply wholerow_spec <;> walk_at "nz:p")); walk_at "nz:row2") | ((with_reducible show wpAny _ _ (call (Value.ref 556) _) _ _ _); walk_at "nz:row"; (· k_dflt (exact scaled_spec' (by walk_at "nz:row1") (by first | assumption | exact fac_m | exact fac_led (by k_mem)) (by first | assumption | exact RowOk.scm (by assumption)))); walk_at "nz:row2") | ((with_reducible show wpAny _ _ (call (Value.ref 556) _) _ _ _); walk_at "nz:row"; (· k_dflt (exact scnorm_spec (by walk_at "nz:row1") (by first | with_reducible assumption | exact fac_one' (by assumption) | exact fac_led' (by assumption) (by k_mem)) (by assumption))); walk_at "nz:row2") | ((with_reducible show wpAny _ _ (call (Value.ref 563) _) _ _ _); walk_at "nz:wf"; (· k_dflt (exact wf_spec (by walk_at "nz:row1") (by exact RowOk.den (by assumption)) (by exact RowOk.num (by assumption)) (by exact RowOk.S (by assumption)))); walk_at "nz:wf2")) | walk1 | (dsimp only; walk1) | (leave1; (try dsimp only)) | fail "no step"))
  (rename Fr _ _ _ _ => F2)
  refine comp_tup F2 N1 (by k_mem) (hszf hfs) (base := news) (binds_pair rfl rfl rfl rfl (by decide) (fun i v h hv N => pairs_terms hfs hv N)) (fun i ys nx => ys = []) rfl (by repeat' first | exact sub_refl | with_reducible assumption | exact sub_nil | refine sub_cons (by k_mem) ?_ | refine sub_tail ?_ | exact sub_left | refine sub_app ?_ | refine sub_both ?_ ?_) ?_ ?_
  · intro i v ys nx own wr C oC D m₂ h tk E' hi hBd hC hJ hyl F4 N4 off hwo
    refine bd_terms hBd fun k t r ρ u u' hma hmb hx hm => ?_
    obtain ⟨hs, rfl⟩ := hJ
    (try clear F1); clear F2 N1
    have hm' := hs _ (sub_tail (sub_tail (sub_tail sub_refl)) _ hm)
    have hd1 : (ρ.den : Int) = 1 := congrArg Int.ofNat (hfp.1 _ (mem_at hx))
    (repeat' (first | (k_unfold; (try dsimp only)) | (k_end; wrow_close) | ((with_reducible show wpAny _ _ (call (Value.ref _) _) _ _ _); first | ((with_reducible show wpAny _ _ (call (Value.ref 641) _) _ _ _); walk_at "nz:true"; (· k_dflt (apply factor_spec <;> walk_at "nz:p")); walk_at "nz:true2") | ((with_reducible show wpAny _ _ (call (Value.ref 617) _) _ _ _); walk_at "nz:pt"; (· k_dflt (apply point_spec <;> walk_at "nz:p")); walk_at "nz:pt2") | ((with_reducible show wpAny _ _ (call (Value.ref 636) _) _ _ _); walk_at "nz:we"; (· k_dflt (apply wholeeq_spec <;> walk_at "nz:p")); walk_at "nz:we2") | ((with_reducible show wpAny _ _ (call (Value.ref 631) _) _ _ _); walk_at "nz:val"; (· k_dflt (apply holds_spec <;> walk_at "nz:p")); walk_at "nz:bool2") | ((with_reducible show wpAny _ _ (call (Value.ref 624) _) _ _ _); walk_at "nz:rt"; (· k_dflt (apply sum_spec <;> walk_at "nz:p")); walk_at "nz:rt2") | ((with_reducible show wpAny _ _ (call (Value.ref 598) _) _ _ _); walk_at "nz:val"; (· k_dflt (apply hopeless_spec <;> walk_at "nz:p")); walk_at "nz:bool2") | ((with_reducible show wpAny _ _ (call (Value.ref 584) _) _ _ _); walk_at "nz:row"; (· k_dflt (apply tight_spec <;> walk_at "nz:p")); walk_at "nz:row2") | ((with_reducible show wpAny _ _ (call (Value.ref 261) _) _ _ _); walk_at "nz:val"; (· k_dflt (apply sort_spec <;> walk_at "nz:p")); walk_at "nz:intx2") | ((with_reducible show wpAny _ _ (call (Value.ref 570) _) _ _ _); walk_at "nz:row"; (· k_dflt (apply wholerow_spec <;> walk_at "nz:p")); walk_at "nz:row2") | ((with_reducible show wpAny _ _ (call (Value.ref 556) _) _ _ _); walk_at "nz:row"; (· k_dflt (exact scaled_spec' (by walk_at "nz:row1") (by first | assumption | exact fac_m | exact fac_led (by k_mem)) (by first | assumption | exact RowOk.scm (by assumption)))); walk_at "nz:row2") | ((with_reducible show wpAny _ _ (call (Value.ref 556) _) _ _ _); walk_at "nz:row"; (· k_dflt (exact scnorm_spec (by walk_at "nz:row1") (by first | with_reducible assumption | exact fac_one' (by assumption) | exact fac_led' (by assumption) (by k_mem)) (by assumption))); walk_at "nz:row2") | ((with_reducible show wpAny _ _ (call (Value.ref 563) _) _ _ _); walk_at "nz:wf"; (· k_dflt (exact wf_spec (by walk_at "nz:row1") (by exact RowOk.den (by assumption)) (by exact RowOk.num (by assumption)) (by exact RowOk.S (by assumption)))); walk_at "nz:wf2")) | walk1 | (dsimp only; walk1) | (leave1; (try dsimp only)) | fail "no step"))
    (rename Fr _ _ _ _ => F9); (rename News _ _ _ _ => N9)
    exact nz_cend0 F9 N9 sub_refl off ⟨hs, rfl⟩
  intro D3 h tk ys3 nx3 N3' hne3 hs3 hK3 F3'
  subst hK3
  (try clear F1); clear F2 N1
  have N4 := news_sub N3' (show ∀ p ∈ (D3, lst []) :: (L' + 1, oF) :: news, p ∈ (D3, lst []) :: nx3 from sub_cons List.mem_cons_self (sub_tail fun p hp => hs3 p (List.mem_cons_of_mem _ (List.mem_cons_of_mem _ hp))))
  clear N3'
  (repeat' (first | (k_unfold; (try dsimp only)) | (k_end; wrow_close) | ((with_reducible show wpAny _ _ (call (Value.ref _) _) _ _ _); first | ((with_reducible show wpAny _ _ (call (Value.ref 641) _) _ _ _); walk_at "nz:true"; (· k_dflt (apply factor_spec <;> walk_at "nz:p")); walk_at "nz:true2") | ((with_reducible show wpAny _ _ (call (Value.ref 617) _) _ _ _); walk_at "nz:pt"; (· k_dflt (apply point_spec <;> walk_at "nz:p")); walk_at "nz:pt2") | ((with_reducible show wpAny _ _ (call (Value.ref 636) _) _ _ _); walk_at "nz:we"; (· k_dflt (apply wholeeq_spec <;> walk_at "nz:p")); walk_at "nz:we2") | ((with_reducible show wpAny _ _ (call (Value.ref 631) _) _ _ _); walk_at "nz:val"; (· k_dflt (apply holds_spec <;> walk_at "nz:p")); walk_at "nz:bool2") | ((with_reducible show wpAny _ _ (call (Value.ref 624) _) _ _ _); walk_at "nz:rt"; (· k_dflt (apply sum_spec <;> walk_at "nz:p")); walk_at "nz:rt2") | ((with_reducible show wpAny _ _ (call (Value.ref 598) _) _ _ _); walk_at "nz:val"; (· k_dflt (apply hopeless_spec <;> walk_at "nz:p")); walk_at "nz:bool2") | ((with_reducible show wpAny _ _ (call (Value.ref 584) _) _ _ _); walk_at "nz:row"; (· k_dflt (apply tight_spec <;> walk_at "nz:p")); walk_at "nz:row2") | ((with_reducible show wpAny _ _ (call (Value.ref 261) _) _ _ _); walk_at "nz:val"; (· k_dflt (apply sort_spec <;> walk_at "nz:p")); walk_at "nz:intx2") | ((with_reducible show wpAny _ _ (call (Value.ref 570) _) _ _ _); walk_at "nz:row"; (· k_dflt (apply wholerow_spec <;> walk_at "nz:p")); walk_at "nz:row2") | ((with_reducible show wpAny _ _ (call (Value.ref 556) _) _ _ _); walk_at "nz:row"; (· k_dflt (exact scaled_spec' (by walk_at "nz:row1") (by first | assumption | exact fac_m | exact fac_led (by k_mem)) (by first | assumption | exact RowOk.scm (by assumption)))); walk_at "nz:row2") | ((with_reducible show wpAny _ _ (call (Value.ref 556) _) _ _ _); walk_at "nz:row"; (· k_dflt (exact scnorm_spec (by walk_at "nz:row1") (by first | with_reducible assumption | exact fac_one' (by assumption) | exact fac_led' (by assumption) (by k_mem)) (by assumption))); walk_at "nz:row2") | ((with_reducible show wpAny _ _ (call (Value.ref 563) _) _ _ _); walk_at "nz:wf"; (· k_dflt (exact wf_spec (by walk_at "nz:row1") (by exact RowOk.den (by assumption)) (by exact RowOk.num (by assumption)) (by exact RowOk.S (by assumption)))); walk_at "nz:wf2")) | walk1 | (dsimp only; walk1) | (leave1; (try dsimp only)) | fail "no step"))
  (rename Fr _ _ _ _ => F1); (rename News _ _ _ _ => N1)
  refine comp_tup F1 N1 (by k_mem) (hszf hfs) (base := news) (binds_pair rfl rfl rfl rfl (by decide) (fun i v h hv N => pairs_terms hfs hv N)) (fun i ys nx => All2 IntV ys ((fts.take i).map (fun t => t.2.num))) .nil (by repeat' first | exact sub_refl | with_reducible assumption | exact sub_nil | refine sub_cons (by k_mem) ?_ | refine sub_tail ?_ | exact sub_left | refine sub_app ?_ | refine sub_both ?_ ?_) ?_ ?_
  · intro i v ys nx own wr C oC D m₂ h tk E' hi hBd hC hJ hyl F4 N4 off hwo
    refine bd_terms hBd fun k t r ρ u u' hma hmb hx hm => ?_
    obtain ⟨hs, hK⟩ := hJ
    clear F1 N1
    have hm' := hs _ (sub_tail (sub_tail (sub_tail sub_refl)) _ hm)
    refine tests_nil ?_
    (repeat' (first | (k_unfold; (try dsimp only)) | (k_end; wrow_close) | ((with_reducible show wpAny _ _ (call (Value.ref _) _) _ _ _); first | ((with_reducible show wpAny _ _ (call (Value.ref 641) _) _ _ _); walk_at "nz:true"; (· k_dflt (apply factor_spec <;> walk_at "nz:p")); walk_at "nz:true2") | ((with_reducible show wpAny _ _ (call (Value.ref 617) _) _ _ _); walk_at "nz:pt"; (· k_dflt (apply point_spec <;> walk_at "nz:p")); walk_at "nz:pt2") | ((with_reducible show wpAny _ _ (call (Value.ref 636) _) _ _ _); walk_at "nz:we"; (· k_dflt (apply wholeeq_spec <;> walk_at "nz:p")); walk_at "nz:we2") | ((with_reducible show wpAny _ _ (call (Value.ref 631) _) _ _ _); walk_at "nz:val"; (· k_dflt (apply holds_spec <;> walk_at "nz:p")); walk_at "nz:bool2") | ((with_reducible show wpAny _ _ (call (Value.ref 624) _) _ _ _); walk_at "nz:rt"; (· k_dflt (apply sum_spec <;> walk_at "nz:p")); walk_at "nz:rt2") | ((with_reducible show wpAny _ _ (call (Value.ref 598) _) _ _ _); walk_at "nz:val"; (· k_dflt (apply hopeless_spec <;> walk_at "nz:p")); walk_at "nz:bool2") | ((with_reducible show wpAny _ _ (call (Value.ref 584) _) _ _ _); walk_at "nz:row"; (· k_dflt (apply tight_spec <;> walk_at "nz:p")); walk_at "nz:row2") | ((with_reducible show wpAny _ _ (call (Value.ref 261) _) _ _ _); walk_at "nz:val"; (· k_dflt (apply sort_spec <;> walk_at "nz:p")); walk_at "nz:intx2") | ((with_reducible show wpAny _ _ (call (Value.ref 570) _) _ _ _); walk_at "nz:row"; (· k_dflt (apply wholerow_spec <;> walk_at "nz:p")); walk_at "nz:row2") | ((with_reducible show wpAny _ _ (call (Value.ref 556) _) _ _ _); walk_at "nz:row"; (· k_dflt (exact scaled_spec' (by walk_at "nz:row1") (by first | assumption | exact fac_m | exact fac_led (by k_mem)) (by first | assumption | exact RowOk.scm (by assumption)))); walk_at "nz:row2") | ((with_reducible show wpAny _ _ (call (Value.ref 556) _) _ _ _); walk_at "nz:row"; (· k_dflt (exact scnorm_spec (by walk_at "nz:row1") (by first | with_reducible assumption | exact fac_one' (by assumption) | exact fac_led' (by assumption) (by k_mem)) (by assumption))); walk_at "nz:row2") | ((with_reducible show wpAny _ _ (call (Value.ref 563) _) _ _ _); walk_at "nz:wf"; (· k_dflt (exact wf_spec (by walk_at "nz:row1") (by exact RowOk.den (by assumption)) (by exact RowOk.num (by assumption)) (by exact RowOk.S (by assumption)))); walk_at "nz:wf2")) | walk1 | (dsimp only; walk1) | (leave1; (try dsimp only)) | fail "no step"))
    (rename Fr _ _ _ _ => F9); (rename News _ _ _ _ => N9)
    refine nz_cend0 F9 N9 sub_refl off ⟨hs, ?_⟩
    rw [take_snoc hx, List.map_append]
    exact hK.snoc ⟨_, rfl⟩
  intro D4 h tk ys4 nx4 N4' hne4 hs4 hK4 F4'
  clear F1 N1
  rw [hfs.length, List.take_length] at hK4
  have N5 := news_sub N4' (show ∀ p ∈ (D4, lst ys4) :: (L' + 1, oF) :: news, p ∈ (D4, lst ys4) :: nx4 from sub_cons List.mem_cons_self (fun p hp => List.mem_cons_of_mem _ (hs4 p (by first | exact List.mem_cons_of_mem _ (List.mem_cons_of_mem _ hp) | exact List.mem_cons_of_mem _ hp))))
  clear N4'
  have hpl : (fts.map fun t => t.2.num).length ≤ 1000 := by rw [List.length_map, hfl]; exact hlen
  have hpb : ∀ n ∈ fts.map (fun t => t.2.num), -1152921504606846976 < n ∧ n < 1152921504606846976 := fun n hn => by
    obtain ⟨t, ht, rfl⟩ := List.mem_map.mp hn
    exact hfn t ht
  (repeat' (first | (k_unfold; (try dsimp only)) | (k_end; wrow_close) | ((with_reducible show wpAny _ _ (call (Value.ref _) _) _ _ _); first | ((with_reducible show wpAny _ _ (call (Value.ref 641) _) _ _ _); walk_at "nz:true"; (· k_dflt (apply factor_spec <;> walk_at "nz:p")); walk_at "nz:true2") | ((with_reducible show wpAny _ _ (call (Value.ref 617) _) _ _ _); walk_at "nz:pt"; (· k_dflt (apply point_spec <;> walk_at "nz:p")); walk_at "nz:pt2") | ((with_reducible show wpAny _ _ (call (Value.ref 636) _) _ _ _); walk_at "nz:we"; (· k_dflt (apply wholeeq_spec <;> walk_at "nz:p")); walk_at "nz:we2") | ((with_reducible show wpAny _ _ (call (Value.ref 631) _) _ _ _); walk_at "nz:val"; (· k_dflt (apply holds_spec <;> walk_at "nz:p")); walk_at "nz:bool2") | ((with_reducible show wpAny _ _ (call (Value.ref 624) _) _ _ _); walk_at "nz:rt"; (· k_dflt (apply sum_spec <;> walk_at "nz:p")); walk_at "nz:rt2") | ((with_reducible show wpAny _ _ (call (Value.ref 598) _) _ _ _); walk_at "nz:val"; (· k_dflt (apply hopeless_spec <;> walk_at "nz:p")); walk_at "nz:bool2") | ((with_reducible show wpAny _ _ (call (Value.ref 584) _) _ _ _); walk_at "nz:row"; (· k_dflt (apply tight_spec <;> walk_at "nz:p")); walk_at "nz:row2") | ((with_reducible show wpAny _ _ (call (Value.ref 261) _) _ _ _); walk_at "nz:val"; (· k_dflt (apply sort_spec <;> walk_at "nz:p")); walk_at "nz:intx2") | ((with_reducible show wpAny _ _ (call (Value.ref 570) _) _ _ _); walk_at "nz:row"; (· k_dflt (apply wholerow_spec <;> walk_at "nz:p")); walk_at "nz:row2") | ((with_reducible show wpAny _ _ (call (Value.ref 556) _) _ _ _); walk_at "nz:row"; (· k_dflt (exact scaled_spec' (by walk_at "nz:row1") (by first | assumption | exact fac_m | exact fac_led (by k_mem)) (by first | assumption | exact RowOk.scm (by assumption)))); walk_at "nz:row2") | ((with_reducible show wpAny _ _ (call (Value.ref 556) _) _ _ _); walk_at "nz:row"; (· k_dflt (exact scnorm_spec (by walk_at "nz:row1") (by first | with_reducible assumption | exact fac_one' (by assumption) | exact fac_led' (by assumption) (by k_mem)) (by assumption))); walk_at "nz:row2") | ((with_reducible show wpAny _ _ (call (Value.ref 563) _) _ _ _); walk_at "nz:wf"; (· k_dflt (exact wf_spec (by walk_at "nz:row1") (by exact RowOk.den (by assumption)) (by exact RowOk.num (by assumption)) (by exact RowOk.S (by assumption)))); walk_at "nz:wf2")) | walk1 | (dsimp only; walk1) | (leave1; (try dsimp only)) | fail "no step"))
  · (rename PtAns _ _ _ => ha)
    (rename _ ≠ 1 => hne)
    exact absurd (pt_one ha fun d hd => hfp.2 d fun t ht => hd _ (List.mem_map_of_mem (f := fun t : Int × Rat => t.2.num) ht)) hne
  (rename PtAns _ _ _ => ha)
  (rename _ = 1 => h1)
  subst h1
  (rename Fr _ _ _ _ => F1); (rename News _ _ _ _ => N1)
  (rename All2 IntV _ _ => hz)
  (rename List Int => zs9)
  have hzl := hz.length
  have hzl2 := ha.len
  rw [List.length_map, hfl] at hzl2
  have hmul1 : ∀ k, IntMulOk fb.num k := fun k => mulOk_left ⟨hfb.1, by omega⟩
  have hmul2 : ∀ k, IntMulOk (fb.num + 1) k := fun k => mulOk_left ⟨by omega, by omega⟩
  refine comp_list F1 N1 (by k_mem) (by rw [hzl, hzl2]; exact Nat.le_trans hlen (by decide)) (base := []) (binds_name rfl rfl) (fun i ys nx => All2 IntV ys ((List.take i zs9).map (fun l => fb.num * l))) .nil (fun _ h => nomatch h) ?_ ?_
  · intro i v ys nx own wr C oC D m₂ h tk E' hi hBd hC hJ hyl F4 N4 off hwo
    obtain ⟨hma, _, hv9⟩ := hBd
    obtain ⟨k', hk', t', rfl⟩ := hz.get hv9
    obtain ⟨hs, hK⟩ := hJ
    have hcell := hs (L' + 1, oF) (by k_mem)
    have hfa' := hs _ (by first | exact sub_tail (sub_tail (sub_tail (sub_tail sub_refl))) _ hfa)
    have hfr' := hs _ (by first | exact sub_tail (sub_tail (sub_tail (sub_tail sub_refl))) _ hfr)
    have hmul := hmul1 k'
    clear F1 N1
    refine tests_nil ?_
    (repeat' (first | (k_unfold; (try dsimp only)) | (k_end; wrow_close) | ((with_reducible show wpAny _ _ (call (Value.ref _) _) _ _ _); first | ((with_reducible show wpAny _ _ (call (Value.ref 641) _) _ _ _); walk_at "nz:true"; (· k_dflt (apply factor_spec <;> walk_at "nz:p")); walk_at "nz:true2") | ((with_reducible show wpAny _ _ (call (Value.ref 617) _) _ _ _); walk_at "nz:pt"; (· k_dflt (apply point_spec <;> walk_at "nz:p")); walk_at "nz:pt2") | ((with_reducible show wpAny _ _ (call (Value.ref 636) _) _ _ _); walk_at "nz:we"; (· k_dflt (apply wholeeq_spec <;> walk_at "nz:p")); walk_at "nz:we2") | ((with_reducible show wpAny _ _ (call (Value.ref 631) _) _ _ _); walk_at "nz:val"; (· k_dflt (apply holds_spec <;> walk_at "nz:p")); walk_at "nz:bool2") | ((with_reducible show wpAny _ _ (call (Value.ref 624) _) _ _ _); walk_at "nz:rt"; (· k_dflt (apply sum_spec <;> walk_at "nz:p")); walk_at "nz:rt2") | ((with_reducible show wpAny _ _ (call (Value.ref 598) _) _ _ _); walk_at "nz:val"; (· k_dflt (apply hopeless_spec <;> walk_at "nz:p")); walk_at "nz:bool2") | ((with_reducible show wpAny _ _ (call (Value.ref 584) _) _ _ _); walk_at "nz:row"; (· k_dflt (apply tight_spec <;> walk_at "nz:p")); walk_at "nz:row2") | ((with_reducible show wpAny _ _ (call (Value.ref 261) _) _ _ _); walk_at "nz:val"; (· k_dflt (apply sort_spec <;> walk_at "nz:p")); walk_at "nz:intx2") | ((with_reducible show wpAny _ _ (call (Value.ref 570) _) _ _ _); walk_at "nz:row"; (· k_dflt (apply wholerow_spec <;> walk_at "nz:p")); walk_at "nz:row2") | ((with_reducible show wpAny _ _ (call (Value.ref 556) _) _ _ _); walk_at "nz:row"; (· k_dflt (exact scaled_spec' (by walk_at "nz:row1") (by first | assumption | exact fac_m | exact fac_led (by k_mem)) (by first | assumption | exact RowOk.scm (by assumption)))); walk_at "nz:row2") | ((with_reducible show wpAny _ _ (call (Value.ref 556) _) _ _ _); walk_at "nz:row"; (· k_dflt (exact scnorm_spec (by walk_at "nz:row1") (by first | with_reducible assumption | exact fac_one' (by assumption) | exact fac_led' (by assumption) (by k_mem)) (by assumption))); walk_at "nz:row2") | ((with_reducible show wpAny _ _ (call (Value.ref 563) _) _ _ _); walk_at "nz:wf"; (· k_dflt (exact wf_spec (by walk_at "nz:row1") (by exact RowOk.den (by assumption)) (by exact RowOk.num (by assumption)) (by exact RowOk.S (by assumption)))); walk_at "nz:wf2")) | walk1 | (dsimp only; walk1) | (leave1; (try dsimp only)) | fail "no step"))
    (rename Fr _ _ _ _ => F9); (rename News _ _ _ _ => N9)
    refine nz_cend0 F9 N9 sub_refl off ⟨hs, ?_⟩
    rw [take_snoc hk', List.map_append]
    exact hK.snoc ⟨_, rfl⟩
  intro D5 h tk ys5 nx5 N5' hne5 hs5 hK5 F5'
  rw [hzl, List.take_length] at hK5
  have N6 := news_sub N5' (sub_cons List.mem_cons_self (fun p hp => List.mem_cons_of_mem _ (hs5 p hp)))
  clear N5' F1 N1
  (repeat' (first | (k_unfold; (try dsimp only)) | (k_end; wrow_close) | ((with_reducible show wpAny _ _ (call (Value.ref _) _) _ _ _); first | ((with_reducible show wpAny _ _ (call (Value.ref 641) _) _ _ _); walk_at "nz:true"; (· k_dflt (apply factor_spec <;> walk_at "nz:p")); walk_at "nz:true2") | ((with_reducible show wpAny _ _ (call (Value.ref 617) _) _ _ _); walk_at "nz:pt"; (· k_dflt (apply point_spec <;> walk_at "nz:p")); walk_at "nz:pt2") | ((with_reducible show wpAny _ _ (call (Value.ref 636) _) _ _ _); walk_at "nz:we"; (· k_dflt (apply wholeeq_spec <;> walk_at "nz:p")); walk_at "nz:we2") | ((with_reducible show wpAny _ _ (call (Value.ref 631) _) _ _ _); walk_at "nz:val"; (· k_dflt (apply holds_spec <;> walk_at "nz:p")); walk_at "nz:bool2") | ((with_reducible show wpAny _ _ (call (Value.ref 624) _) _ _ _); walk_at "nz:rt"; (· k_dflt (apply sum_spec <;> walk_at "nz:p")); walk_at "nz:rt2") | ((with_reducible show wpAny _ _ (call (Value.ref 598) _) _ _ _); walk_at "nz:val"; (· k_dflt (apply hopeless_spec <;> walk_at "nz:p")); walk_at "nz:bool2") | ((with_reducible show wpAny _ _ (call (Value.ref 584) _) _ _ _); walk_at "nz:row"; (· k_dflt (apply tight_spec <;> walk_at "nz:p")); walk_at "nz:row2") | ((with_reducible show wpAny _ _ (call (Value.ref 261) _) _ _ _); walk_at "nz:val"; (· k_dflt (apply sort_spec <;> walk_at "nz:p")); walk_at "nz:intx2") | ((with_reducible show wpAny _ _ (call (Value.ref 570) _) _ _ _); walk_at "nz:row"; (· k_dflt (apply wholerow_spec <;> walk_at "nz:p")); walk_at "nz:row2") | ((with_reducible show wpAny _ _ (call (Value.ref 556) _) _ _ _); walk_at "nz:row"; (· k_dflt (exact scaled_spec' (by walk_at "nz:row1") (by first | assumption | exact fac_m | exact fac_led (by k_mem)) (by first | assumption | exact RowOk.scm (by assumption)))); walk_at "nz:row2") | ((with_reducible show wpAny _ _ (call (Value.ref 556) _) _ _ _); walk_at "nz:row"; (· k_dflt (exact scnorm_spec (by walk_at "nz:row1") (by first | with_reducible assumption | exact fac_one' (by assumption) | exact fac_led' (by assumption) (by k_mem)) (by assumption))); walk_at "nz:row2") | ((with_reducible show wpAny _ _ (call (Value.ref 563) _) _ _ _); walk_at "nz:wf"; (· k_dflt (exact wf_spec (by walk_at "nz:row1") (by exact RowOk.den (by assumption)) (by exact RowOk.num (by assumption)) (by exact RowOk.S (by assumption)))); walk_at "nz:wf2")) | walk1 | (dsimp only; walk1) | (leave1; (try dsimp only)) | fail "no step"))
  (rename Fr _ _ _ _ => F1); (rename News _ _ _ _ => N1)
  refine comp_list F1 N1 (by k_mem) (by rw [hzl, hzl2]; exact Nat.le_trans hlen (by decide)) (base := []) (binds_name rfl rfl) (fun i ys nx => All2 IntV ys ((List.take i zs9).map (fun l => (fb.num + 1) * l))) .nil (fun _ h => nomatch h) ?_ ?_
  · intro i v ys nx own wr C oC D m₂ h tk E' hi hBd hC hJ hyl F4 N4 off hwo
    obtain ⟨hma, _, hv9⟩ := hBd
    obtain ⟨k', hk', t', rfl⟩ := hz.get hv9
    obtain ⟨hs, hK⟩ := hJ
    have hcell := hs (L' + 1, oF) (by k_mem)
    have hfa' := hs _ (by first | exact sub_tail (sub_tail (sub_tail (sub_tail (sub_tail sub_refl)))) _ hfa)
    have hfr' := hs _ (by first | exact sub_tail (sub_tail (sub_tail (sub_tail (sub_tail sub_refl)))) _ hfr)
    have hmul := hmul2 k'
    clear F1 N1
    refine tests_nil ?_
    (repeat' (first | (k_unfold; (try dsimp only)) | (k_end; wrow_close) | ((with_reducible show wpAny _ _ (call (Value.ref _) _) _ _ _); first | ((with_reducible show wpAny _ _ (call (Value.ref 641) _) _ _ _); walk_at "nz:true"; (· k_dflt (apply factor_spec <;> walk_at "nz:p")); walk_at "nz:true2") | ((with_reducible show wpAny _ _ (call (Value.ref 617) _) _ _ _); walk_at "nz:pt"; (· k_dflt (apply point_spec <;> walk_at "nz:p")); walk_at "nz:pt2") | ((with_reducible show wpAny _ _ (call (Value.ref 636) _) _ _ _); walk_at "nz:we"; (· k_dflt (apply wholeeq_spec <;> walk_at "nz:p")); walk_at "nz:we2") | ((with_reducible show wpAny _ _ (call (Value.ref 631) _) _ _ _); walk_at "nz:val"; (· k_dflt (apply holds_spec <;> walk_at "nz:p")); walk_at "nz:bool2") | ((with_reducible show wpAny _ _ (call (Value.ref 624) _) _ _ _); walk_at "nz:rt"; (· k_dflt (apply sum_spec <;> walk_at "nz:p")); walk_at "nz:rt2") | ((with_reducible show wpAny _ _ (call (Value.ref 598) _) _ _ _); walk_at "nz:val"; (· k_dflt (apply hopeless_spec <;> walk_at "nz:p")); walk_at "nz:bool2") | ((with_reducible show wpAny _ _ (call (Value.ref 584) _) _ _ _); walk_at "nz:row"; (· k_dflt (apply tight_spec <;> walk_at "nz:p")); walk_at "nz:row2") | ((with_reducible show wpAny _ _ (call (Value.ref 261) _) _ _ _); walk_at "nz:val"; (· k_dflt (apply sort_spec <;> walk_at "nz:p")); walk_at "nz:intx2") | ((with_reducible show wpAny _ _ (call (Value.ref 570) _) _ _ _); walk_at "nz:row"; (· k_dflt (apply wholerow_spec <;> walk_at "nz:p")); walk_at "nz:row2") | ((with_reducible show wpAny _ _ (call (Value.ref 556) _) _ _ _); walk_at "nz:row"; (· k_dflt (exact scaled_spec' (by walk_at "nz:row1") (by first | assumption | exact fac_m | exact fac_led (by k_mem)) (by first | assumption | exact RowOk.scm (by assumption)))); walk_at "nz:row2") | ((with_reducible show wpAny _ _ (call (Value.ref 556) _) _ _ _); walk_at "nz:row"; (· k_dflt (exact scnorm_spec (by walk_at "nz:row1") (by first | with_reducible assumption | exact fac_one' (by assumption) | exact fac_led' (by assumption) (by k_mem)) (by assumption))); walk_at "nz:row2") | ((with_reducible show wpAny _ _ (call (Value.ref 563) _) _ _ _); walk_at "nz:wf"; (· k_dflt (exact wf_spec (by walk_at "nz:row1") (by exact RowOk.den (by assumption)) (by exact RowOk.num (by assumption)) (by exact RowOk.S (by assumption)))); walk_at "nz:wf2")) | walk1 | (dsimp only; walk1) | (leave1; (try dsimp only)) | fail "no step"))
    (rename Fr _ _ _ _ => F9); (rename News _ _ _ _ => N9)
    refine nz_cend0 F9 N9 sub_refl off ⟨hs, ?_⟩
    rw [take_snoc hk', List.map_append]
    exact hK.snoc ⟨_, rfl⟩
  intro D6 h tk ys6 nx6 N6' hne6 hs6 hK6 F6'
  rw [hzl, List.take_length] at hK6
  have N7 := news_sub N6' (sub_cons List.mem_cons_self (fun p hp => List.mem_cons_of_mem _ (hs6 p hp)))
  clear N6' F1 N1
  have hl5 : row.ts.length = (zs9.map fun l => fb.num * l).length := by rw [List.length_map, hzl2]
  have hl6 : row.ts.length = (zs9.map fun l => (fb.num + 1) * l).length := by rw [List.length_map, hzl2]
  have hR := tf.reach zs9 (by rw [hzl2, hfl]) ha.sum
  have hS := tf.beyond zs9 (by rw [hzl2, hfl]) ha.sum
  have hH := tf.hope
  (repeat' (first | (k_unfold; (try dsimp only)) | (k_end; wrow_close) | ((with_reducible show wpAny _ _ (call (Value.ref _) _) _ _ _); first | ((with_reducible show wpAny _ _ (call (Value.ref 641) _) _ _ _); walk_at "nz:true"; (· k_dflt (apply factor_spec <;> walk_at "nz:p")); walk_at "nz:true2") | ((with_reducible show wpAny _ _ (call (Value.ref 617) _) _ _ _); walk_at "nz:pt"; (· k_dflt (apply point_spec <;> walk_at "nz:p")); walk_at "nz:pt2") | ((with_reducible show wpAny _ _ (call (Value.ref 636) _) _ _ _); walk_at "nz:we"; (· k_dflt (apply wholeeq_spec <;> walk_at "nz:p")); walk_at "nz:we2") | ((with_reducible show wpAny _ _ (call (Value.ref 631) _) _ _ _); walk_at "nz:val"; (· k_dflt (apply holds_spec <;> walk_at "nz:p")); walk_at "nz:bool2") | ((with_reducible show wpAny _ _ (call (Value.ref 624) _) _ _ _); walk_at "nz:rt"; (· k_dflt (apply sum_spec <;> walk_at "nz:p")); walk_at "nz:rt2") | ((with_reducible show wpAny _ _ (call (Value.ref 598) _) _ _ _); walk_at "nz:val"; (· k_dflt (apply hopeless_spec <;> walk_at "nz:p")); walk_at "nz:bool2") | ((with_reducible show wpAny _ _ (call (Value.ref 584) _) _ _ _); walk_at "nz:row"; (· k_dflt (apply tight_spec <;> walk_at "nz:p")); walk_at "nz:row2") | ((with_reducible show wpAny _ _ (call (Value.ref 261) _) _ _ _); walk_at "nz:val"; (· k_dflt (apply sort_spec <;> walk_at "nz:p")); walk_at "nz:intx2") | ((with_reducible show wpAny _ _ (call (Value.ref 570) _) _ _ _); walk_at "nz:row"; (· k_dflt (apply wholerow_spec <;> walk_at "nz:p")); walk_at "nz:row2") | ((with_reducible show wpAny _ _ (call (Value.ref 556) _) _ _ _); walk_at "nz:row"; (· k_dflt (exact scaled_spec' (by walk_at "nz:row1") (by first | assumption | exact fac_m | exact fac_led (by k_mem)) (by first | assumption | exact RowOk.scm (by assumption)))); walk_at "nz:row2") | ((with_reducible show wpAny _ _ (call (Value.ref 556) _) _ _ _); walk_at "nz:row"; (· k_dflt (exact scnorm_spec (by walk_at "nz:row1") (by first | with_reducible assumption | exact fac_one' (by assumption) | exact fac_led' (by assumption) (by k_mem)) (by assumption))); walk_at "nz:row2") | ((with_reducible show wpAny _ _ (call (Value.ref 563) _) _ _ _); walk_at "nz:wf"; (· k_dflt (exact wf_spec (by walk_at "nz:row1") (by exact RowOk.den (by assumption)) (by exact RowOk.num (by assumption)) (by exact RowOk.S (by assumption)))); walk_at "nz:wf2")) | walk1 | (dsimp only; walk1) | (leave1; (try dsimp only)) | fail "no step"))
  exact hret _ [] _ _ (by k_asm) (news_sub (by assumption) (by repeat' first | exact sub_refl | with_reducible assumption | exact sub_nil | refine sub_cons (by k_mem) ?_ | refine sub_tail ?_ | exact sub_left | refine sub_app ?_ | refine sub_both ?_ ?_)) (by rw [hH]; rfl)
end
section
def wholeB (row : Row) : Int := (row.b.num * eqBelow row).fdiv (row.b.den : Int)
structure EqFacts (srt : List Int) (row : Row) (fts : List (Int × Rat)) (fb : Rat) : Prop where
  nz : ∀ n ∈ row.ts.map (wholeNum row), -1152921504606846976 < n ∧ n < 1152921504606846976
  wb : -1152921504606846976 < wholeB row ∧ wholeB row < 1152921504606846976
  len : fts.length = row.ts.length
  num : ∀ t ∈ fts, -1152921504606846976 < t.2.num ∧ t.2.num < 1152921504606846976
  den : ∀ t ∈ fts, (t.2.den : Int) < 1152921504606846976
  prod : ∀ i, dprod (fts.take i) < 1152921504606846976
  bnum : -1152921504606846976 < fb.num ∧ fb.num < 1152921504606846976
  bden : (fb.den : Int) < 1152921504606846976
  head : ∃ k ρ ft, fts = (k, ρ) :: ft ∧ 0 < ρ.num
  pos : ∀ s ps, PtAns (row.ts.map (wholeNum row)) s ps → 0 < s
  hope : ∀ s ps, PtAns (row.ts.map (wholeNum row)) s ps → (row.hopeless srt = true ↔ (wholeB row).fmod s ≠ 0)
  no : ∀ s ps, PtAns (row.ts.map (wholeNum row)) s ps → (wholeB row).fmod s ≠ 0 → (fb.den : Int) ≠ 1
  yes : ∀ s ps, PtAns (row.ts.map (wholeNum row)) s ps → (wholeB row).fmod s = 0 → (fb.den : Int) = 1 ∧ holds row.rel (rsum row.ts (ps.map fun l => (wholeB row).fdiv s * l)) row.b = true ∧ holds (Str.ofString "=") (rsum fts (ps.map fun l => (wholeB row).fdiv s * l)) fb = true
theorem led_cells {h₀ h : Heap} {L : Addr} {T P a b : Nat} {oT oP : List Value} {k k' : Nat} {o1 o2 : Obj} {news : Led} {v1 v2 : Option Value} (N : News h₀ L h ((T, ({ cls := .type "tuple", data := .seq oT.toArray k' } : Obj)) :: (P, listOf oP.toArray k) :: (a, o1) :: (b, o2) :: news)) (d1 : o1.data = .cell v1) (d2 : o2.data = .cell v2) :
    T ≠ a ∧ T ≠ b ∧ P ≠ a ∧ P ≠ b := by
  have hT := (N _ List.mem_cons_self).1
  have hP := (N _ (List.mem_cons_of_mem _ List.mem_cons_self)).1
  have ha := (N _ (List.mem_cons_of_mem _ (List.mem_cons_of_mem _ List.mem_cons_self))).1
  have hb := (N _ (List.mem_cons_of_mem _ (List.mem_cons_of_mem _ (List.mem_cons_of_mem _ List.mem_cons_self)))).1
  dsimp only at hT hP ha hb
  refine ⟨?_, ?_, ?_, ?_⟩ <;> rintro rfl
  · rw [hT] at ha; have := Option.some.inj ha; rw [← this] at d1; exact nomatch d1
  · rw [hT] at hb; have := Option.some.inj hb; rw [← this] at d2; exact nomatch d2
  · rw [hP] at ha; have := Option.some.inj ha; rw [← this] at d1; exact nomatch d1
  · rw [hP] at hb; have := Option.some.inj hb; rw [← this] at d2; exact nomatch d2
theorem pt_bd {ns ps : List Int} {s : Int} (hsp : 0 < s) (ha : PtAns ns s ps) : -1152921504606846976 < s ∧ s < 1152921504606846976 := ⟨Int.lt_trans (by decide) hsp, ha.bd⟩
theorem bne_f {a : Bool} {x : Int} (h : a = true ↔ x ≠ 0) : (a != (x != 0)) = false := by cases a <;> simp_all
set_option maxHeartbeats 8000000 in
theorem iseq_spec {w : World} {mean : ExcName → Option Value} {mg mb : Str → Option Value} {news : Led} {a f : Addr} {bk : Value} {row : Row} {srt : List Int} {fts : List (Int × Rat)} {fb : Rat} (hB : BankIn w news bk srt) (hr : RowIn news (.ref a) row) (hf : RowIn news (.ref f) ⟨fts, Str.ofString "=", fb⟩) (ok : RowOk row) (wok : WholeOk srt row.whole) (sok : SumOk row)
    (ef : EqFacts srt row fts fb) : Spec w mean mg mb 651 14 news [bk, .ref a, .ref f] (fun tl r => r = .bool true) := by
  unfold Spec
  k_fill
  intro dp un gd cn cs a ccd cl outer A₀ base h₀ L m s Q E B F X N T hk hd hu hret
  have hlen := ok.len
  have hden := ok.den
  have hnum := ok.num
  have hprod := sok.prod
  have hbn := ok.bnum
  have hbd := ok.bden
  have hrow := hr
  have hfow := hf
  have hfl := ef.len
  have hfnum := ef.num
  have hfden := ef.den
  have hfprod := ef.prod
  have hfbn := ef.bnum
  have hfbd := ef.bden
  have hnb := ef.nz
  have hwb := ef.wb
  obtain ⟨k0, ρ0, ft, rfl, hpos0⟩ := ef.head
  have hnl : (row.ts.map (wholeNum row)).length ≤ 1000 := by rw [List.length_map]; exact hlen
  refine hf.at fun _ _ _ _ _ _ hfa hft hfs hfr => ?_
  dsimp only at hfa hfs hfr
  cases hfs with | cons hf0 hfs =>
  cases hf0 with | mk hf0 hf1 =>
  cases hf1 with | mk hf1 =>
  refine wpAny_call ?_
  k_dflt (refine' code_defC ?k1 ?k2 ?k3 ?k4 ?k5 ?kA ?kF ?kK ?k6 ?k7 ?k8 ?k9 ?kB ?kD ?_ ?c2 ?c3 ?c4; (case kA => exact rfl); (case kF => exact rfl); (case kK => assumption); (case k1 => k_asm); (case k2 => k_asm); (case k3 => k_asm); (case k4 => k_asm); (case k5 => k_asm); (case k6 => k_is); (case k7 => k_is); (case k8 => ktr_room); (case k9 => exact BindsTo.of_eq rfl); (case kB => exact rfl); (case kD => decide +kernel); (case c2 => exact rfl); (case c3 => exact rfl); (case c4 => exact rfl); k_whole; intro g' L' h' tk' cells' FG' F' N' Y' B' X' T' l1; (try k_lt l1); k_cells Y'; (try simp only [List.cons_append, List.nil_append] at N'); (try dsimp only); (try k_fold); refine fold_fr F' ?_; clear F'; intro u8 F')
  have hc1 : ∀ p ∈ news, p.1 ≠ L' + 1 := off_lt l1 (Nat.le_succ L')
  have hc2 : ∀ p ∈ news, p.1 ≠ L' + 1 + 1 := off_lt l1 (Nat.le_succ_of_le (Nat.le_succ L'))
  (repeat' (first | (k_unfold; (try dsimp only)) | (k_end; wrow_close) | ((with_reducible show wpAny _ _ (call (Value.ref _) _) _ _ _); first | ((with_reducible show wpAny _ _ (call (Value.ref 646) _) _ _ _); walk_at "nz:true"; (· k_dflt (apply istight_spec <;> walk_at "nz:p")); walk_at "nz:true2") | ((with_reducible show wpAny _ _ (call (Value.ref 617) _) _ _ _); walk_at "nz:pt"; (· k_dflt (apply point_spec <;> walk_at "nz:p")); walk_at "nz:pt2") | ((with_reducible show wpAny _ _ (call (Value.ref 636) _) _ _ _); walk_at "nz:we"; (· k_dflt (apply wholeeq_spec <;> walk_at "nz:p")); walk_at "nz:we2") | ((with_reducible show wpAny _ _ (call (Value.ref 631) _) _ _ _); walk_at "nz:val"; (· k_dflt (apply holds_spec <;> walk_at "nz:p")); walk_at "nz:bool2") | ((with_reducible show wpAny _ _ (call (Value.ref 624) _) _ _ _); walk_at "nz:rt"; (· k_dflt (apply sum_spec <;> walk_at "nz:p")); walk_at "nz:rt2") | ((with_reducible show wpAny _ _ (call (Value.ref 598) _) _ _ _); walk_at "nz:val"; (· k_dflt (apply hopeless_spec <;> walk_at "nz:p")); walk_at "nz:bool2") | ((with_reducible show wpAny _ _ (call (Value.ref 584) _) _ _ _); walk_at "nz:row"; (· k_dflt (apply tight_spec <;> walk_at "nz:p")); walk_at "nz:row2") | ((with_reducible show wpAny _ _ (call (Value.ref 261) _) _ _ _); walk_at "nz:val"; (· k_dflt (apply sort_spec <;> walk_at "nz:p")); walk_at "nz:intx2") | ((with_reducible show wpAny _ _ (call (Value.ref 570) _) _ _ _); walk_at "nz:row"; (· k_dflt (apply wholerow_spec <;> walk_at "nz:p")); walk_at "nz:row2") | ((with_reducible show wpAny _ _ (call (Value.ref 556) _) _ _ _); walk_at "nz:row"; (· k_dflt (exact scaled_spec' (by walk_at "nz:row1") (by first | assumption | exact fac_m | exact fac_led (by k_mem)) (by first | assumption | exact RowOk.scm (by assumption)))); walk_at "nz:row2") | ((with_reducible show wpAny _ _ (call (Value.ref 556) _) _ _ _); walk_at "nz:row"; (· k_dflt (exact scnorm_spec (by walk_at "nz:row1") (by first | with_reducible assumption | exact fac_one' (by assumption) | exact fac_led' (by assumption) (by k_mem)) (by assumption))); walk_at "nz:row2") | ((with_reducible show wpAny _ _ (call (Value.ref 563) _) _ _ _); walk_at "nz:wf"; (· k_dflt (exact wf_spec (by walk_at "nz:row1") (by exact RowOk.den (by assumption)) (by exact RowOk.num (by assumption)) (by exact RowOk.S (by assumption)))); walk_at "nz:wf2")) | walk1 | (dsimp only; walk1) | (leave1; (try dsimp only)) | fail "no step"))
  (rename News _ _ _ _ => N1)
  obtain ⟨q1, q2, q3, q4⟩ := led_cells N1 (by with_reducible assumption) (by with_reducible assumption)
  (repeat' (first | (k_unfold; (try dsimp only)) | (k_end; wrow_close) | ((with_reducible show wpAny _ _ (call (Value.ref _) _) _ _ _); first | ((with_reducible show wpAny _ _ (call (Value.ref 646) _) _ _ _); walk_at "nz:true"; (· k_dflt (apply istight_spec <;> walk_at "nz:p")); walk_at "nz:true2") | ((with_reducible show wpAny _ _ (call (Value.ref 617) _) _ _ _); walk_at "nz:pt"; (· k_dflt (apply point_spec <;> walk_at "nz:p")); walk_at "nz:pt2") | ((with_reducible show wpAny _ _ (call (Value.ref 636) _) _ _ _); walk_at "nz:we"; (· k_dflt (apply wholeeq_spec <;> walk_at "nz:p")); walk_at "nz:we2") | ((with_reducible show wpAny _ _ (call (Value.ref 631) _) _ _ _); walk_at "nz:val"; (· k_dflt (apply holds_spec <;> walk_at "nz:p")); walk_at "nz:bool2") | ((with_reducible show wpAny _ _ (call (Value.ref 624) _) _ _ _); walk_at "nz:rt"; (· k_dflt (apply sum_spec <;> walk_at "nz:p")); walk_at "nz:rt2") | ((with_reducible show wpAny _ _ (call (Value.ref 598) _) _ _ _); walk_at "nz:val"; (· k_dflt (apply hopeless_spec <;> walk_at "nz:p")); walk_at "nz:bool2") | ((with_reducible show wpAny _ _ (call (Value.ref 584) _) _ _ _); walk_at "nz:row"; (· k_dflt (apply tight_spec <;> walk_at "nz:p")); walk_at "nz:row2") | ((with_reducible show wpAny _ _ (call (Value.ref 261) _) _ _ _); walk_at "nz:val"; (· k_dflt (apply sort_spec <;> walk_at "nz:p")); walk_at "nz:intx2") | ((with_reducible show wpAny _ _ (call (Value.ref 570) _) _ _ _); walk_at "nz:row"; (· k_dflt (apply wholerow_spec <;> walk_at "nz:p")); walk_at "nz:row2") | ((with_reducible show wpAny _ _ (call (Value.ref 556) _) _ _ _); walk_at "nz:row"; (· k_dflt (exact scaled_spec' (by walk_at "nz:row1") (by first | assumption | exact fac_m | exact fac_led (by k_mem)) (by first | assumption | exact RowOk.scm (by assumption)))); walk_at "nz:row2") | ((with_reducible show wpAny _ _ (call (Value.ref 556) _) _ _ _); walk_at "nz:row"; (· k_dflt (exact scnorm_spec (by walk_at "nz:row1") (by first | with_reducible assumption | exact fac_one' (by assumption) | exact fac_led' (by assumption) (by k_mem)) (by assumption))); walk_at "nz:row2") | ((with_reducible show wpAny _ _ (call (Value.ref 563) _) _ _ _); walk_at "nz:wf"; (· k_dflt (exact wf_spec (by walk_at "nz:row1") (by exact RowOk.den (by assumption)) (by exact RowOk.num (by assumption)) (by exact RowOk.S (by assumption)))); walk_at "nz:wf2")) | walk1 | (dsimp only; walk1) | (leave1; (try dsimp only)) | fail "no step"))
  (rename News _ _ _ _ => N2)
  obtain ⟨q5, q6, q7, q8⟩ := led_cells (news_sub N2 (sub_cons List.mem_cons_self (sub_cons (List.mem_cons_of_mem _ List.mem_cons_self) (sub_tail (sub_tail (sub_tail (sub_tail sub_refl))))))) (by with_reducible assumption) (by with_reducible assumption)
  (rename PtAns _ _ _ => ha)
  have hsp := ef.pos _ _ ha
  have hsb := pt_bd hsp ha
  have hsz := Int.ne_of_gt hsp
  have hho := ef.hope _ _ ha
  have hno := ef.no _ _ ha
  have hye := ef.yes _ _ ha
  rw [wholeB] at hho hno hye
  (repeat' (first | (k_unfold; (try dsimp only)) | (k_end; wrow_close) | ((with_reducible show wpAny _ _ (call (Value.ref _) _) _ _ _); first | ((with_reducible show wpAny _ _ (call (Value.ref 646) _) _ _ _); walk_at "nz:true"; (· k_dflt (apply istight_spec <;> walk_at "nz:p")); walk_at "nz:true2") | ((with_reducible show wpAny _ _ (call (Value.ref 617) _) _ _ _); walk_at "nz:pt"; (· k_dflt (apply point_spec <;> walk_at "nz:p")); walk_at "nz:pt2") | ((with_reducible show wpAny _ _ (call (Value.ref 636) _) _ _ _); walk_at "nz:we"; (· k_dflt (apply wholeeq_spec <;> walk_at "nz:p")); walk_at "nz:we2") | ((with_reducible show wpAny _ _ (call (Value.ref 631) _) _ _ _); walk_at "nz:val"; (· k_dflt (apply holds_spec <;> walk_at "nz:p")); walk_at "nz:bool2") | ((with_reducible show wpAny _ _ (call (Value.ref 624) _) _ _ _); walk_at "nz:rt"; (· k_dflt (apply sum_spec <;> walk_at "nz:p")); walk_at "nz:rt2") | ((with_reducible show wpAny _ _ (call (Value.ref 598) _) _ _ _); walk_at "nz:val"; (· k_dflt (apply hopeless_spec <;> walk_at "nz:p")); walk_at "nz:bool2") | ((with_reducible show wpAny _ _ (call (Value.ref 584) _) _ _ _); walk_at "nz:row"; (· k_dflt (apply tight_spec <;> walk_at "nz:p")); walk_at "nz:row2") | ((with_reducible show wpAny _ _ (call (Value.ref 261) _) _ _ _); walk_at "nz:val"; (· k_dflt (apply sort_spec <;> walk_at "nz:p")); walk_at "nz:intx2") | ((with_reducible show wpAny _ _ (call (Value.ref 570) _) _ _ _); walk_at "nz:row"; (· k_dflt (apply wholerow_spec <;> walk_at "nz:p")); walk_at "nz:row2") | ((with_reducible show wpAny _ _ (call (Value.ref 556) _) _ _ _); walk_at "nz:row"; (· k_dflt (exact scaled_spec' (by walk_at "nz:row1") (by first | assumption | exact fac_m | exact fac_led (by k_mem)) (by first | assumption | exact RowOk.scm (by assumption)))); walk_at "nz:row2") | ((with_reducible show wpAny _ _ (call (Value.ref 556) _) _ _ _); walk_at "nz:row"; (· k_dflt (exact scnorm_spec (by walk_at "nz:row1") (by first | with_reducible assumption | exact fac_one' (by assumption) | exact fac_led' (by assumption) (by k_mem)) (by assumption))); walk_at "nz:row2") | ((with_reducible show wpAny _ _ (call (Value.ref 563) _) _ _ _); walk_at "nz:wf"; (· k_dflt (exact wf_spec (by walk_at "nz:row1") (by exact RowOk.den (by assumption)) (by exact RowOk.num (by assumption)) (by exact RowOk.S (by assumption)))); walk_at "nz:wf2")) | walk1 | (dsimp only; walk1) | (leave1; (try dsimp only)) | fail "no step"))
  · exact absurd ((bne_f hho).symm.trans (by with_reducible assumption)) Bool.false_ne_true
  · have hno' := hno (by with_reducible assumption)
    exact hret _ [] _ _ (by k_asm) (news_sub (by assumption) (by repeat' first | exact sub_refl | with_reducible assumption | exact sub_nil | refine sub_cons (by k_mem) ?_ | refine sub_tail ?_ | exact sub_left | refine sub_app ?_ | refine sub_both ?_ ?_)) (by rw [bne_iff_ne.mpr hno'])
  obtain ⟨hy1, hy2, hy3⟩ := hye (by with_reducible assumption)
  (rename Fr _ _ _ _ => F1); (rename News _ _ _ _ => N3)
  (rename All2 IntV _ _ => hz)
  (rename List Int => zs9)
  (rename Int => s9)
  have hzl := hz.length
  have hzl2 := ha.len
  rw [List.length_map] at hzl2
  have hq : -1152921504606846976 < ((row.b.num * eqBelow row).fdiv (row.b.den : Int)).fdiv s9 ∧ ((row.b.num * eqBelow row).fdiv (row.b.den : Int)).fdiv s9 < 1152921504606846976 := quo_bd (Int.ne_of_gt hsp) (show -1152921504606846976 < wholeB row ∧ wholeB row < 1152921504606846976 from hwb)
  have hmul1 : ∀ k, IntMulOk (((row.b.num * eqBelow row).fdiv (row.b.den : Int)).fdiv s9) k := fun k => mulOk_left hq
  have N4 := news_sub N3 (show ∀ p ∈ _ :: _ :: _ :: _ :: news, p ∈ _ from sub_cons List.mem_cons_self (sub_cons (List.mem_cons_of_mem _ List.mem_cons_self) (sub_tail (sub_tail (sub_tail (sub_tail sub_refl))))))
  clear N3
  refine comp_list F1 N4 (by k_mem) (by rw [hzl, hzl2]; exact Nat.le_trans hlen (by decide)) (base := []) (binds_name rfl rfl) (fun i ys nx => All2 IntV ys ((List.take i zs9).map (fun l => ((row.b.num * eqBelow row).fdiv (row.b.den : Int)).fdiv s9 * l))) .nil (fun _ h => nomatch h) ?_ ?_
  · intro i v ys nx own wr C oC D m₂ h tk E' hi hBd hC hJ hyl F5 N5 off hwo
    obtain ⟨hma, _, hv9⟩ := hBd
    obtain ⟨k', hk', t', rfl⟩ := hz.get hv9
    obtain ⟨hs, hK⟩ := hJ
    have hcell1 := hs (L' + 1 + 1, _) (by k_mem)
    have hcell2 := hs (L' + 1, _) (by k_mem)
    have hmul := hmul1 k'
    clear F1 N4
    refine tests_nil ?_
    (repeat' (first | (k_unfold; (try dsimp only)) | (k_end; wrow_close) | ((with_reducible show wpAny _ _ (call (Value.ref _) _) _ _ _); first | ((with_reducible show wpAny _ _ (call (Value.ref 646) _) _ _ _); walk_at "nz:true"; (· k_dflt (apply istight_spec <;> walk_at "nz:p")); walk_at "nz:true2") | ((with_reducible show wpAny _ _ (call (Value.ref 617) _) _ _ _); walk_at "nz:pt"; (· k_dflt (apply point_spec <;> walk_at "nz:p")); walk_at "nz:pt2") | ((with_reducible show wpAny _ _ (call (Value.ref 636) _) _ _ _); walk_at "nz:we"; (· k_dflt (apply wholeeq_spec <;> walk_at "nz:p")); walk_at "nz:we2") | ((with_reducible show wpAny _ _ (call (Value.ref 631) _) _ _ _); walk_at "nz:val"; (· k_dflt (apply holds_spec <;> walk_at "nz:p")); walk_at "nz:bool2") | ((with_reducible show wpAny _ _ (call (Value.ref 624) _) _ _ _); walk_at "nz:rt"; (· k_dflt (apply sum_spec <;> walk_at "nz:p")); walk_at "nz:rt2") | ((with_reducible show wpAny _ _ (call (Value.ref 598) _) _ _ _); walk_at "nz:val"; (· k_dflt (apply hopeless_spec <;> walk_at "nz:p")); walk_at "nz:bool2") | ((with_reducible show wpAny _ _ (call (Value.ref 584) _) _ _ _); walk_at "nz:row"; (· k_dflt (apply tight_spec <;> walk_at "nz:p")); walk_at "nz:row2") | ((with_reducible show wpAny _ _ (call (Value.ref 261) _) _ _ _); walk_at "nz:val"; (· k_dflt (apply sort_spec <;> walk_at "nz:p")); walk_at "nz:intx2") | ((with_reducible show wpAny _ _ (call (Value.ref 570) _) _ _ _); walk_at "nz:row"; (· k_dflt (apply wholerow_spec <;> walk_at "nz:p")); walk_at "nz:row2") | ((with_reducible show wpAny _ _ (call (Value.ref 556) _) _ _ _); walk_at "nz:row"; (· k_dflt (exact scaled_spec' (by walk_at "nz:row1") (by first | assumption | exact fac_m | exact fac_led (by k_mem)) (by first | assumption | exact RowOk.scm (by assumption)))); walk_at "nz:row2") | ((with_reducible show wpAny _ _ (call (Value.ref 556) _) _ _ _); walk_at "nz:row"; (· k_dflt (exact scnorm_spec (by walk_at "nz:row1") (by first | with_reducible assumption | exact fac_one' (by assumption) | exact fac_led' (by assumption) (by k_mem)) (by assumption))); walk_at "nz:row2") | ((with_reducible show wpAny _ _ (call (Value.ref 563) _) _ _ _); walk_at "nz:wf"; (· k_dflt (exact wf_spec (by walk_at "nz:row1") (by exact RowOk.den (by assumption)) (by exact RowOk.num (by assumption)) (by exact RowOk.S (by assumption)))); walk_at "nz:wf2")) | walk1 | (dsimp only; walk1) | (leave1; (try dsimp only)) | fail "no step"))
    (rename Fr _ _ _ _ => F9); (rename News _ _ _ _ => N9)
    refine nz_cend0 F9 N9 sub_refl off ⟨hs, ?_⟩
    rw [take_snoc hk', List.map_append]
    exact hK.snoc ⟨_, rfl⟩
  intro D5 h tk ys5 nx5 N5' hne5 hs5 hK5 F5'
  rw [hzl, List.take_length] at hK5
  have N6 := news_sub N5' (sub_cons List.mem_cons_self (fun p hp => List.mem_cons_of_mem _ (hs5 p hp)))
  clear N5' F1 N4
  have hl5 : row.ts.length = (zs9.map fun l => ((row.b.num * eqBelow row).fdiv (row.b.den : Int)).fdiv s9 * l).length := by rw [List.length_map, hzl2]
  have hl6 : ((k0, ρ0) :: ft).length = (zs9.map fun l => ((row.b.num * eqBelow row).fdiv (row.b.den : Int)).fdiv s9 * l).length := by rw [List.length_map, hzl2, hfl]
  (repeat' (first | (k_unfold; (try dsimp only)) | (k_end; wrow_close) | ((with_reducible show wpAny _ _ (call (Value.ref _) _) _ _ _); first | ((with_reducible show wpAny _ _ (call (Value.ref 646) _) _ _ _); walk_at "nz:true"; (· k_dflt (apply istight_spec <;> walk_at "nz:p")); walk_at "nz:true2") | ((with_reducible show wpAny _ _ (call (Value.ref 617) _) _ _ _); walk_at "nz:pt"; (· k_dflt (apply point_spec <;> walk_at "nz:p")); walk_at "nz:pt2") | ((with_reducible show wpAny _ _ (call (Value.ref 636) _) _ _ _); walk_at "nz:we"; (· k_dflt (apply wholeeq_spec <;> walk_at "nz:p")); walk_at "nz:we2") | ((with_reducible show wpAny _ _ (call (Value.ref 631) _) _ _ _); walk_at "nz:val"; (· k_dflt (apply holds_spec <;> walk_at "nz:p")); walk_at "nz:bool2") | ((with_reducible show wpAny _ _ (call (Value.ref 624) _) _ _ _); walk_at "nz:rt"; (· k_dflt (apply sum_spec <;> walk_at "nz:p")); walk_at "nz:rt2") | ((with_reducible show wpAny _ _ (call (Value.ref 598) _) _ _ _); walk_at "nz:val"; (· k_dflt (apply hopeless_spec <;> walk_at "nz:p")); walk_at "nz:bool2") | ((with_reducible show wpAny _ _ (call (Value.ref 584) _) _ _ _); walk_at "nz:row"; (· k_dflt (apply tight_spec <;> walk_at "nz:p")); walk_at "nz:row2") | ((with_reducible show wpAny _ _ (call (Value.ref 261) _) _ _ _); walk_at "nz:val"; (· k_dflt (apply sort_spec <;> walk_at "nz:p")); walk_at "nz:intx2") | ((with_reducible show wpAny _ _ (call (Value.ref 570) _) _ _ _); walk_at "nz:row"; (· k_dflt (apply wholerow_spec <;> walk_at "nz:p")); walk_at "nz:row2") | ((with_reducible show wpAny _ _ (call (Value.ref 556) _) _ _ _); walk_at "nz:row"; (· k_dflt (exact scaled_spec' (by walk_at "nz:row1") (by first | assumption | exact fac_m | exact fac_led (by k_mem)) (by first | assumption | exact RowOk.scm (by assumption)))); walk_at "nz:row2") | ((with_reducible show wpAny _ _ (call (Value.ref 556) _) _ _ _); walk_at "nz:row"; (· k_dflt (exact scnorm_spec (by walk_at "nz:row1") (by first | with_reducible assumption | exact fac_one' (by assumption) | exact fac_led' (by assumption) (by k_mem)) (by assumption))); walk_at "nz:row2") | ((with_reducible show wpAny _ _ (call (Value.ref 563) _) _ _ _); walk_at "nz:wf"; (· k_dflt (exact wf_spec (by walk_at "nz:row1") (by exact RowOk.den (by assumption)) (by exact RowOk.num (by assumption)) (by exact RowOk.S (by assumption)))); walk_at "nz:wf2")) | walk1 | (dsimp only; walk1) | (leave1; (try dsimp only)) | fail "no step"))
  exact hret _ [] _ _ (by k_asm) (news_sub (by assumption) (by repeat' first | exact sub_refl | with_reducible assumption | exact sub_nil | refine sub_cons (by k_mem) ?_ | refine sub_tail ?_ | exact sub_left | refine sub_app ?_ | refine sub_both ?_ ?_)) (by rw [decide_eq_true hpos0])
end
section
section
variable {prog : Program} {w : World} {A : Around} {E : Value → Shared → Prop} {s : Shared} {h₀ h : Heap} {L d a : Addr} {m : Str → Option Value} {o : Obj} {all : Led} {xs : List ((Str × Int × Int) × Addr × Value)} {k : Str × Int × Int}
/-- the bank's numbers, as an object -/
def BankDict (prog : Program) (w : World) (o : Obj) (xs : List ((Str × Int × Int) × Addr × Value)) : Prop :=
  ∃ es ep, o.ExactDict ∧ o.data = .dict es ep ∧ es.toList = xs.map (entryOfKey (bankKind prog w)) ∧ (xs.map (·.1)).Nodup
theorem bankDict_nil (hd : o.IsDictOf (PySem.strKind prog w) []) : BankDict prog w o [] := by
  obtain ⟨es, ep, h1, h2, _, h4, _⟩ := hd
  refine ⟨es, ep, h1, h2, ?_, List.nodup_nil⟩
  cases h : es.toList with
  | nil => rfl
  | cons e l => rw [h] at h4; cases h4
/-- a key of the ledger -/
inductive KeyIn (all : Led) : Str × Int × Int → Addr → Prop
  | mk {a e : Addr} {x : Str} {i j : Int} {t u v : Tok} : (a, tupO [.str x t, .ref e, .int i u, .int j v]) ∈ all → (e, tupO []) ∈ all → KeyIn all (x, i, j) a
theorem KeyIn.mono {all' : Led} (h : KeyIn all k a) (hs : ∀ p ∈ all, p ∈ all') : KeyIn all' k a := by
  cases h with | mk h1 h2 => exact .mk (hs _ h1) (hs _ h2)
theorem KeyIn.is (N : News h₀ L h all) (hk : KeyIn all k a) : (bankKind prog w).is h k a := by
  cases hk with | mk h1 h2 =>
  exact ⟨(N _ h1).1, (N _ h2).1⟩
def KeysIn (all : Led) (xs : List ((Str × Int × Int) × Addr × Value)) : Prop := ∀ x ∈ xs, KeyIn all x.1 x.2.1
theorem KeysIn.mono {all' : Led} (h : KeysIn all xs) (hs : ∀ p ∈ all, p ∈ all') : KeysIn all' xs := fun x hx => (h x hx).mono hs
theorem keysIn_nil : KeysIn all [] := fun _ h => nomatch h
theorem keysIn_cons {x : (Str × Int × Int) × Addr × Value} (h1 : KeyIn all x.1 x.2.1) (h : KeysIn all xs) : KeysIn all (x :: xs) := List.forall_mem_cons.mpr ⟨h1, h⟩
theorem dict_of_led (N : News h₀ L h all) (hm : (d, o) ∈ all) (hD : BankDict prog w o xs) (hK : KeysIn all xs) : h.DictOfH (bankKind prog w) d xs := by
  obtain ⟨es, ep, h1, h2, h3, h4⟩ := hD
  exact ⟨o, es, ep, (N _ hm).1, h1, h2, h3, fun x hx => (hK x hx).is N, h4⟩
def FreshK (k : Str × Int × Int) (xs : List ((Str × Int × Int) × Addr × Value)) : Prop := ∀ x ∈ xs, x.1 ≠ k
theorem fresh_nil : FreshK k [] := fun _ h => nomatch h
theorem fresh_cons {k' : Str × Int × Int} {av : Addr × Value} (h1 : k' ≠ k) (h : FreshK k xs) : FreshK k ((k', av) :: xs) := List.forall_mem_cons.mpr ⟨h1, h⟩
theorem atKey_fresh (h : FreshK k xs) : atKey xs k = none := by
  unfold atKey
  rw [List.find?_eq_none.mpr fun x hx => by simpa using h x hx]
  rfl
theorem nz_dictGet {dflt : Value} {Q : Value → Shared → Prop} (N : News h₀ L s.heap all) (hm : (d, o) ∈ all) (hD : BankDict prog w o xs) (hK : KeysIn all xs) (lo : (d == sysModules) = false) (hu : A.units + 4 < cLine) (hkey : KeyIn all k a) (hf : FreshK k xs)
    (h : Q dflt { s with toks := s.toks + 5 }) : wpAny (model prog w) A (call (.builtin "dict.get") [.ref d, .ref a, dflt]) Q E s := by
  have hH := dict_of_led (prog := prog) (w := w) N hm hD hK
  refine call_meetsIn PySem.F.slot_dict_get hH.typeIs PySem.F.entry_dict_get (PySem.F.args_dict_get_3 _ _ _) (meetsH_dict_get_default (bankKind prog w) d a lo dflt) ⟨?_, k, xs, hkey.is N, hH, ?_⟩
  · show A.units + 1 + 2 < cLine
    omega
  · rw [atKey_fresh hf]
    exact h
theorem nz_dictSet {v : Value} {g : Obj → Led} {Q : Unit → Shared → Prop} (F : Fr h₀ L s.heap m) (N : News h₀ L s.heap all) (U : UpdF d o all g) (hD : BankDict prog w o xs) (hK : KeysIn all xs) (hu : A.units + 4 < cLine) (hkey : KeyIn all k a) (hf : FreshK k xs) (hz : xs.length ≤ 1000)
    (h : ∀ h' o', Fr h₀ L h' m → News h₀ L h' (g o') → BankDict prog w o' (xs ++ [(k, a, v)]) → Q () { s with heap := h', toks := s.toks + 5 }) : wpAny (model prog w) A (setItem (.ref d) (.ref a) v) Q E s := by
  obtain ⟨pre, post, hl, hg, ha, hb⟩ := U.split
  have hmem : (d, o) ∈ all := by rw [hl]; exact List.mem_append_right _ (.head _)
  have hm := N (d, o) hmem
  refine wpAny_setItem_heap (hsz := Nat.le_trans hz (by decide)) ?_ (hkey.is N) (dict_of_led N hmem hD hK) fun h' hmm hs => ?_
  · show A.units + 1 + 2 < cLine
    omega
  · rw [storedH_new (atKey_fresh hf)] at hmm
    obtain ⟨o', es, ep, ho', h1, h2, h3, _, h5⟩ := hmm
    refine h h' o' (F.change hs hm.2.1 hm.2.2) ?_ ⟨es, ep, h1, h2, h3, h5⟩
    rw [hg o']
    rw [hl] at N
    exact N.setIn ha hb hs ho'
end
theorem nz_dictMethod {prog : Program} {w : World} {A : Around} {E : Value → Shared → Prop} {s : Shared} {h₀ : Heap} {L d : Addr} {o : Obj} {all : Led} {xs : List ((Str × Int × Int) × Addr × Value)} {pl : Sem Bool} {Q : Value × List Value → Shared → Prop} (N : News h₀ L s.heap all) (hm : (d, o) ∈ all) (hD : BankDict prog w o xs)
    (h : Q (.builtin "dict.get", [.ref d]) s) : wpAny (model prog w) A (getMethod (.ref d) "get" pl) Q E s := by
  obtain ⟨es, ep, hx, _⟩ := hD
  exact getMethod_builtin ⟨o, (N _ hm).1, hx.1⟩ PySem.F.plainAttrs_dict PySem.F.slot_dict_get PySem.F.type_dict_get (fun a e => by cases e; exact ⟨o, (N _ hm).1, hx.2.1⟩) h
set_option genInjectivity false in
/-- the bank: its addresses, and what stands in its objects -/
structure BankS where
  B : Addr
  d : Addr
  n : Nat
  sn : Addr
  sw : Addr
  fn : Addr
  fa : Addr
  fr : Addr
  to : Addr
  ta : Addr
  ts : Addr
  td : Addr
  nu : Addr
  t0 : Tok
  t1 : Tok
  t2 : Tok
  t3 : Tok
  t4 : Tok
  t5 : Tok
  t6 : Tok
  t7 : Tok
  t8 : Tok
  t9 : Tok
  t10 : Tok
  t11 : Tok
  t12 : Tok
  v5 : Value
  v11 : Value
  v12 : Value
  kfn : Nat
  kfa : Nat
  kfr : Nat
  kto : Nat
  kta : Nat
  kts : Nat
  ktd : Nat
  vfn : List Value
  vfa : List Value
  vfr : List Value
  vto : List Value
  vta : List Value
  vts : List Value
  vtd : List Value
  o : Obj
def bankLed (w : World) (b : BankS) : Led :=
  [(b.B, instObj 549 b.d),
   (b.d, dictOf [{ hash := PyData.keyHash w.params (Str.ofString "sort_names"), key := .str (Str.ofString "sort_names") b.t0, val := .ref b.sn }, { hash := PyData.keyHash w.params (Str.ofString "sort_widths"), key := .str (Str.ofString "sort_widths") b.t1, val := .ref b.sw }, { hash := PyData.keyHash w.params (Str.ofString "fun_names"), key := .str (Str.ofString "fun_names") b.t2, val := .ref b.fn }, { hash := PyData.keyHash w.params (Str.ofString "fun_args"), key := .str (Str.ofString "fun_args") b.t3, val := .ref b.fa }, { hash := PyData.keyHash w.params (Str.ofString "fun_results"), key := .str (Str.ofString "fun_results") b.t4, val := .ref b.fr }, { hash := PyData.keyHash w.params (Str.ofString "fresh_count"), key := .str (Str.ofString "fresh_count") b.t5, val := b.v5 }, { hash := PyData.keyHash w.params (Str.ofString "term_ops"), key := .str (Str.ofString "term_ops") b.t6, val := .ref b.to }, { hash := PyData.keyHash w.params (Str.ofString "term_args"), key := .str (Str.ofString "term_args") b.t7, val := .ref b.ta }, { hash := PyData.keyHash w.params (Str.ofString "term_sorts"), key := .str (Str.ofString "term_sorts") b.t8, val := .ref b.ts }, { hash := PyData.keyHash w.params (Str.ofString "term_datas"), key := .str (Str.ofString "term_datas") b.t9, val := .ref b.td }, { hash := PyData.keyHash w.params (Str.ofString "numbers"), key := .str (Str.ofString "numbers") b.t10, val := .ref b.nu }, { hash := PyData.keyHash w.params (Str.ofString "true_number"), key := .str (Str.ofString "true_number") b.t11, val := b.v11 }, { hash := PyData.keyHash w.params (Str.ofString "false_number"), key := .str (Str.ofString "false_number") b.t12, val := b.v12 }] b.n),
   (b.fn, listOf b.vfn.toArray b.kfn), (b.fa, listOf b.vfa.toArray b.kfa), (b.fr, listOf b.vfr.toArray b.kfr), (b.to, listOf b.vto.toArray b.kto), (b.ta, listOf b.vta.toArray b.kta), (b.ts, listOf b.vts.toArray b.kts), (b.td, listOf b.vtd.toArray b.ktd), (b.nu, b.o)]
def BankS.addrs (b : BankS) : List Nat := [b.B, b.d, b.fn, b.fa, b.fr, b.to, b.ta, b.ts, b.td, b.nu]
def AppLt (i : Int) (xs : List ((Str × Int × Int) × Addr × Value)) : Prop := ∀ x ∈ xs, x.1.1 = Str.ofString "app" → x.1.2.2 < i
theorem app_nil {i : Int} : AppLt i [] := fun _ h => nomatch h
theorem app_cons {i : Int} {k : Str × Int × Int} {av : Addr × Value} {xs : List ((Str × Int × Int) × Addr × Value)} (h : k.1 ≠ Str.ofString "app") (r : AppLt i xs) : AppLt i ((k, av) :: xs) := List.forall_mem_cons.mpr ⟨fun e => absurd e h, r⟩
/-- the bank with i consts, the terms' sorts srt, its keys' tuples in rest -/
structure BankG (w : World) (b : BankS) (srt : List Int) (i : Nat) (rest : Led) : Prop where
  ord : @LT.lt Nat _ b.d b.B ∧ @LT.lt Nat _ b.B b.fn ∧ @LT.lt Nat _ b.fn b.fa ∧ @LT.lt Nat _ b.fa b.fr ∧ @LT.lt Nat _ b.fr b.to ∧ @LT.lt Nat _ b.to b.ta ∧ @LT.lt Nat _ b.ta b.ts ∧ @LT.lt Nat _ b.ts b.td ∧ @LT.lt Nat _ b.td b.nu
  off : ∀ p ∈ rest, p.1 ∉ b.addrs
  lfn : b.vfn.length = i
  lfa : b.vfa.length = i
  lfr : b.vfr.length = i
  lto : b.vto.length = 3 + i
  lta : b.vta.length = 3 + i
  ltd : b.vtd.length = 3 + i
  lsrt : srt.length = 3 + i
  sts : All2 IntV b.vts srt
  lo : (b.nu == sysModules) = false
  dict : ∃ xs, BankDict PySem.Challenge.rw_nz0148_01.row.prog w b.o xs ∧ KeysIn rest xs ∧ xs.length = 2 + i ∧ AppLt (i : Int) xs
/-- a growing list -/
noncomputable def Inc : Nat → List Nat → Prop
  | _, [] => True
  | d, x :: l => d < x ∧ Inc x l
theorem Inc.lt : ∀ {l : List Nat} {d : Nat}, Inc d l → ∀ x ∈ l, d < x
  | [], _, _, x, hx => nomatch hx
  | y :: l, d, h, x, hx => by
    rcases List.mem_cons.mp hx with rfl | hx
    · exact h.1
    · exact Nat.lt_trans h.1 (Inc.lt h.2 x hx)
theorem Inc.apart : ∀ {l r : List Nat} {d : Nat}, Inc d (l ++ r) → ∀ x ∈ d :: l, ∀ y ∈ r, x < y
  | [], r, d, h, x, hx, y, hy => by rw [List.mem_singleton.mp hx]; exact Inc.lt h y hy
  | z :: l, r, d, h, x, hx, y, hy => by
    have h2 := Inc.apart (l := l) h.2
    rcases List.mem_cons.mp hx with rfl | hx
    · exact Nat.lt_trans h.1 (h2 z List.mem_cons_self y hy)
    · exact h2 x hx y hy
theorem inc_list {d : Nat} {l l' : List Nat} (h : Inc d l) (hs : ∀ a ∈ l', a ∈ d :: l) : ∀ a ∈ l', d ≤ a := fun a ha => by
  rcases List.mem_cons.mp (hs a ha) with e | h'
  · exact Nat.le_of_eq e.symm
  · exact Nat.le_of_lt (h.lt a h')
theorem inc_off {d : Nat} {l r l' : List Nat} (h : Inc d (l ++ r)) (hs : ∀ a ∈ l', a ∈ d :: l) : ∀ y ∈ r, y ∉ l' := fun y hy hm => Nat.lt_irrefl y (h.apart y (hs y hm) y hy)
theorem gt_all {news l : Led} {d : Nat} (h : ∀ p ∈ news, @LT.lt Nat _ p.1 d) (hl : ∀ a ∈ l.map (fun p => p.1), @LE.le Nat _ d a) : ∀ p ∈ l, ∀ q ∈ news, q.1 < p.1 := fun p hp q hq =>
  Nat.lt_of_lt_of_le (h q hq) (hl _ (List.mem_map_of_mem (f := fun p : Addr × Obj => p.1) hp))
theorem off_ne {b : BankS} {rest : Led} (h : ∀ p ∈ rest, p.1 ∉ b.addrs) {a : Nat} (ha : a ∈ b.addrs) : ∀ p ∈ rest, p.1 ≠ a := fun p hp e => h p hp (by rw [e]; exact ha)
theorem nz_append {prog : Program} {w : World} {A : Around} {E : Value → Shared → Prop} {s : Shared} {h₀ : Heap} {L D : Addr} {m : Str → Option Value} {all : Led} {g : Obj → Led} {vs : List Value} {k : Nat} {x : Value} {Q : Value → Shared → Prop} (F : Fr h₀ L s.heap m) (N : News h₀ L s.heap all) (U : UpdF D (listOf vs.toArray k) all g) (hz : vs.length ≤ 1000)
    (h : ∀ h', Fr h₀ L h' m → News h₀ L h' (g (listOf (vs ++ [x]).toArray (k + 1))) → Q .none { s with heap := h' }) : wpAny (model prog w) A (call (.builtin "list.append") [.ref D, x]) Q E s := by
  obtain ⟨pre, post, hl, hg, ha, hb⟩ := U.split
  have hmem : (D, listOf vs.toArray k) ∈ all := by rw [hl]; exact List.mem_append_right _ (.head _)
  have hm := N _ hmem
  refine append_at (hsz := by rw [List.size_toArray]; exact Nat.le_trans hz (by decide)) hm.1 fun h' hs ho' => h h' (F.change hs hm.2.1 hm.2.2) ?_
  rw [hg]
  rw [hl] at N
  rw [List.push_toArray] at ho'
  exact N.setIn ha hb hs ho'
theorem apart_fresh {d B fn fa fr to ta ts td nu : Nat} (h : @LT.lt Nat _ d B ∧ @LT.lt Nat _ B fn ∧ @LT.lt Nat _ fn fa ∧ @LT.lt Nat _ fa fr ∧ @LT.lt Nat _ fr to ∧ @LT.lt Nat _ to ta ∧ @LT.lt Nat _ ta ts ∧ @LT.lt Nat _ ts td ∧ @LT.lt Nat _ td nu) {G : Prop} (k : d ≠ fn → B ≠ fn → fa ≠ fn → fr ≠ fn → to ≠ fn → ta ≠ fn → ts ≠ fn → td ≠ fn → nu ≠ fn → d ≠ fa → B ≠ fa → fn ≠ fa → fr ≠ fa → to ≠ fa → ta ≠ fa → ts ≠ fa → td ≠ fa → nu ≠ fa → d ≠ fr → B ≠ fr → fn ≠ fr → fa ≠ fr → to ≠ fr → ta ≠ fr → ts ≠ fr → td ≠ fr → nu ≠ fr → @LT.lt Nat _ fr to → @LT.lt Nat _ fr ta → @LT.lt Nat _ fr ts → @LT.lt Nat _ fr td → @LT.lt Nat _ fr nu → G) : G := by
  obtain ⟨l0_1, l1_2, l2_3, l3_4, l4_5, l5_6, l6_7, l7_8, l8_9⟩ := h
  have l0_2 := Nat.lt_trans l0_1 l1_2
  have l1_3 := Nat.lt_trans l1_2 l2_3
  have l2_4 := Nat.lt_trans l2_3 l3_4
  have l3_5 := Nat.lt_trans l3_4 l4_5
  have l4_6 := Nat.lt_trans l4_5 l5_6
  have l5_7 := Nat.lt_trans l5_6 l6_7
  have l6_8 := Nat.lt_trans l6_7 l7_8
  have l7_9 := Nat.lt_trans l7_8 l8_9
  have l0_3 := Nat.lt_trans l0_2 l2_3
  have l1_4 := Nat.lt_trans l1_3 l3_4
  have l2_5 := Nat.lt_trans l2_4 l4_5
  have l3_6 := Nat.lt_trans l3_5 l5_6
  have l4_7 := Nat.lt_trans l4_6 l6_7
  have l5_8 := Nat.lt_trans l5_7 l7_8
  have l6_9 := Nat.lt_trans l6_8 l8_9
  have l0_4 := Nat.lt_trans l0_3 l3_4
  have l1_5 := Nat.lt_trans l1_4 l4_5
  have l2_6 := Nat.lt_trans l2_5 l5_6
  have l3_7 := Nat.lt_trans l3_6 l6_7
  have l4_8 := Nat.lt_trans l4_7 l7_8
  have l5_9 := Nat.lt_trans l5_8 l8_9
  have l0_5 := Nat.lt_trans l0_4 l4_5
  have l1_6 := Nat.lt_trans l1_5 l5_6
  have l2_7 := Nat.lt_trans l2_6 l6_7
  have l3_8 := Nat.lt_trans l3_7 l7_8
  have l4_9 := Nat.lt_trans l4_8 l8_9
  have l0_6 := Nat.lt_trans l0_5 l5_6
  have l1_7 := Nat.lt_trans l1_6 l6_7
  have l2_8 := Nat.lt_trans l2_7 l7_8
  have l3_9 := Nat.lt_trans l3_8 l8_9
  have l0_7 := Nat.lt_trans l0_6 l6_7
  have l1_8 := Nat.lt_trans l1_7 l7_8
  have l2_9 := Nat.lt_trans l2_8 l8_9
  have l0_8 := Nat.lt_trans l0_7 l7_8
  have l1_9 := Nat.lt_trans l1_8 l8_9
  have l0_9 := Nat.lt_trans l0_8 l8_9
  exact k (Nat.ne_of_lt l0_2) (Nat.ne_of_lt l1_2) (Nat.ne_of_gt l2_3) (Nat.ne_of_gt l2_4) (Nat.ne_of_gt l2_5) (Nat.ne_of_gt l2_6) (Nat.ne_of_gt l2_7) (Nat.ne_of_gt l2_8) (Nat.ne_of_gt l2_9) (Nat.ne_of_lt l0_3) (Nat.ne_of_lt l1_3) (Nat.ne_of_lt l2_3) (Nat.ne_of_gt l3_4) (Nat.ne_of_gt l3_5) (Nat.ne_of_gt l3_6) (Nat.ne_of_gt l3_7) (Nat.ne_of_gt l3_8) (Nat.ne_of_gt l3_9) (Nat.ne_of_lt l0_4) (Nat.ne_of_lt l1_4) (Nat.ne_of_lt l2_4) (Nat.ne_of_lt l3_4) (Nat.ne_of_gt l4_5) (Nat.ne_of_gt l4_6) (Nat.ne_of_gt l4_7) (Nat.ne_of_gt l4_8) (Nat.ne_of_gt l4_9) l4_5 l4_6 l4_7 l4_8 l4_9
theorem apart_make {d B to ta ts td nu : Nat} (h : @LT.lt Nat _ d B ∧ @LT.lt Nat _ B to ∧ @LT.lt Nat _ to ta ∧ @LT.lt Nat _ ta ts ∧ @LT.lt Nat _ ts td ∧ @LT.lt Nat _ td nu) {G : Prop} (k : d ≠ to → B ≠ to → ta ≠ to → ts ≠ to → td ≠ to → nu ≠ to → d ≠ ta → B ≠ ta → to ≠ ta → ts ≠ ta → td ≠ ta → nu ≠ ta → d ≠ ts → B ≠ ts → to ≠ ts → ta ≠ ts → td ≠ ts → nu ≠ ts → d ≠ td → B ≠ td → to ≠ td → ta ≠ td → ts ≠ td → nu ≠ td → d ≠ nu → B ≠ nu → to ≠ nu → ta ≠ nu → ts ≠ nu → td ≠ nu → G) : G := by
  obtain ⟨l0_1, l1_2, l2_3, l3_4, l4_5, l5_6⟩ := h
  have l0_2 := Nat.lt_trans l0_1 l1_2
  have l1_3 := Nat.lt_trans l1_2 l2_3
  have l2_4 := Nat.lt_trans l2_3 l3_4
  have l3_5 := Nat.lt_trans l3_4 l4_5
  have l4_6 := Nat.lt_trans l4_5 l5_6
  have l0_3 := Nat.lt_trans l0_2 l2_3
  have l1_4 := Nat.lt_trans l1_3 l3_4
  have l2_5 := Nat.lt_trans l2_4 l4_5
  have l3_6 := Nat.lt_trans l3_5 l5_6
  have l0_4 := Nat.lt_trans l0_3 l3_4
  have l1_5 := Nat.lt_trans l1_4 l4_5
  have l2_6 := Nat.lt_trans l2_5 l5_6
  have l0_5 := Nat.lt_trans l0_4 l4_5
  have l1_6 := Nat.lt_trans l1_5 l5_6
  have l0_6 := Nat.lt_trans l0_5 l5_6
  exact k (Nat.ne_of_lt l0_2) (Nat.ne_of_lt l1_2) (Nat.ne_of_gt l2_3) (Nat.ne_of_gt l2_4) (Nat.ne_of_gt l2_5) (Nat.ne_of_gt l2_6) (Nat.ne_of_lt l0_3) (Nat.ne_of_lt l1_3) (Nat.ne_of_lt l2_3) (Nat.ne_of_gt l3_4) (Nat.ne_of_gt l3_5) (Nat.ne_of_gt l3_6) (Nat.ne_of_lt l0_4) (Nat.ne_of_lt l1_4) (Nat.ne_of_lt l2_4) (Nat.ne_of_lt l3_4) (Nat.ne_of_gt l4_5) (Nat.ne_of_gt l4_6) (Nat.ne_of_lt l0_5) (Nat.ne_of_lt l1_5) (Nat.ne_of_lt l2_5) (Nat.ne_of_lt l3_5) (Nat.ne_of_lt l4_5) (Nat.ne_of_gt l5_6) (Nat.ne_of_lt l0_6) (Nat.ne_of_lt l1_6) (Nat.ne_of_lt l2_6) (Nat.ne_of_lt l3_6) (Nat.ne_of_lt l4_6) (Nat.ne_of_lt l5_6)
end
local macro_rules | `(tactic| walk_at "nz:units") => `(tactic| (first | ktr_units | (simp only [units_under_make, units_deeper]; (try dsimp only [ktrTop]); omega)))
local macro_rules | `(tactic| walk_at "call builtin:list.append") => `(tactic| (k_here; (with_reducible show wpAny _ _ (call (Value.builtin _) _) _ _ _); k_dflt (refine nz_append (by k_asm) (by k_asm) (by k_updF) (by walk_at "nz:fits") ?_); intro h' F' N'; (try dsimp only at N'); (try dsimp only)))
section
/-- what make reads and writes of the bank; behind its first attributes any others -/
def bankE (w : World) (b : BankS) (es : List DictEntry) : Led :=
  [(b.B, instObj 549 b.d),
   (b.d, dictOf (({ hash := PyData.keyHash w.params (Str.ofString "sort_names"), key := .str (Str.ofString "sort_names") b.t0, val := .ref b.sn} : DictEntry) :: ({hash := PyData.keyHash w.params (Str.ofString "sort_widths"), key := .str (Str.ofString "sort_widths") b.t1, val := .ref b.sw} : DictEntry) :: ({hash := PyData.keyHash w.params (Str.ofString "fun_names"), key := .str (Str.ofString "fun_names") b.t2, val := .ref b.fn} : DictEntry) :: ({hash := PyData.keyHash w.params (Str.ofString "fun_args"), key := .str (Str.ofString "fun_args") b.t3, val := .ref b.fa} : DictEntry) :: ({hash := PyData.keyHash w.params (Str.ofString "fun_results"), key := .str (Str.ofString "fun_results") b.t4, val := .ref b.fr} : DictEntry) :: ({hash := PyData.keyHash w.params (Str.ofString "fresh_count"), key := .str (Str.ofString "fresh_count") b.t5, val := b.v5} : DictEntry) :: ({hash := PyData.keyHash w.params (Str.ofString "term_ops"), key := .str (Str.ofString "term_ops") b.t6, val := .ref b.to} : DictEntry) :: ({hash := PyData.keyHash w.params (Str.ofString "term_args"), key := .str (Str.ofString "term_args") b.t7, val := .ref b.ta} : DictEntry) :: ({hash := PyData.keyHash w.params (Str.ofString "term_sorts"), key := .str (Str.ofString "term_sorts") b.t8, val := .ref b.ts} : DictEntry) :: ({hash := PyData.keyHash w.params (Str.ofString "term_datas"), key := .str (Str.ofString "term_datas") b.t9, val := .ref b.td} : DictEntry) :: ({hash := PyData.keyHash w.params (Str.ofString "numbers"), key := .str (Str.ofString "numbers") b.t10, val := .ref b.nu } : DictEntry) :: es) b.n),
   (b.to, listOf b.vto.toArray b.kto), (b.ta, listOf b.vta.toArray b.kta), (b.ts, listOf b.vts.toArray b.kts), (b.td, listOf b.vtd.toArray b.ktd), (b.nu, b.o)]
local macro_rules | `(tactic| walk_at "getAttr ref") => `(tactic| (k_here; k_dflt (refine get_own (by k_asm) (by k_asm) (by k_inst) (by k_is) (by k_is) (by k_is) (by k_is) (by exact rfl) (by k_handed) ?_); (try dsimp only)))
theorem news_mk {w : World} {h₀ h : Heap} {L : Addr} {q0 : Addr × Obj} {b1 : BankS} {es : List DictEntry} {rest : Led} (N : News h₀ L h (q0 :: (bankE w b1 es ++ rest))) : News h₀ L h (bankE w b1 es ++ (q0 :: rest)) :=
  news_sub N (sub_both (sub_tail sub_left) (sub_cons List.mem_cons_self (sub_tail (sub_app sub_refl))))
set_option maxHeartbeats 8000000 in
theorem make_spec {w : World} {mean : ExcName → Option Value} {mg mb : Str → Option Value} {news : Led} {b : BankS} {es : List DictEntry} {xs : List ((Str × Int × Int) × Addr × Value)} {kl rest : Led} {op : Str} {so da : Int} {ae : Addr} {x0 x1 x2 : Tok}
    (hD : BankDict PySem.Challenge.rw_nz0148_01.row.prog w b.o xs) (hK : KeysIn kl xs) (hkl : ∀ p ∈ kl, p ∈ rest) (hae : (ae, tupO []) ∈ rest) (hf : FreshK (op, so, da) xs) (hxl : xs.length ≤ 900)
    (ord : @LT.lt Nat _ b.d b.B ∧ @LT.lt Nat _ b.B b.to ∧ @LT.lt Nat _ b.to b.ta ∧ @LT.lt Nat _ b.ta b.ts ∧ @LT.lt Nat _ b.ts b.td ∧ @LT.lt Nat _ b.td b.nu) (q4 : ∀ p ∈ rest, p.1 ≠ b.to) (q5 : ∀ p ∈ rest, p.1 ≠ b.ta) (q6 : ∀ p ∈ rest, p.1 ≠ b.ts) (q7 : ∀ p ∈ rest, p.1 ≠ b.td) (q8 : ∀ p ∈ rest, p.1 ≠ b.nu)
    (e4 : b.vto.length ≤ 900) (e5 : b.vta.length ≤ 900) (e6 : b.vts.length ≤ 900) (e7 : b.vtd.length ≤ 900) (lo : (b.nu == sysModules) = false) :
    SpecU w mean mg mb 289 4 (bankE w b es ++ rest) [.ref b.B, .str op x0, .ref ae, .int so x1, .int da x2] (fun nx r => ∃ D o' t t', nx = bankE w { b with vto := b.vto ++ [.str op x0], kto := b.kto + 1, vta := b.vta ++ [.ref ae], kta := b.kta + 1, vts := b.vts ++ [.int so x1], kts := b.kts + 1, vtd := b.vtd ++ [.int da x2], ktd := b.ktd + 1, o := o' } es ++ ((D, tupO [.str op x0, .ref ae, .int so x1, .int da x2]) :: rest) ∧
      BankDict PySem.Challenge.rw_nz0148_01.row.prog w o' (xs ++ [((op, so, da), D, .int (b.vto.length : Int) t)]) ∧ r = .int (b.vto.length : Int) t' ∧ ∀ q ∈ bankE w b es ++ rest, @LT.lt Nat _ q.1 D) := by
  unfold SpecU
  k_fill
  intro dp un gd cn cs a ccd cl outer A₀ base h₀ L m s Q E B F X N T hk hd hu hret
  obtain ⟨B, d, n, sn, sw, fn, fa, fr, to, ta, ts, td, nu, t0, t1, t2, t3, t4, t5, t6, t7, t8, t9, t10, t11, t12, v5, v11, v12, kfn, kfa, kfr, kto, kta, kts, ktd, vfn, vfa, vfr, vto, vta, vts, vtd, o⟩ := b
  dsimp only at ord q4 q5 q6 q7 q8 e4 e5 e6 e7 lo hD
  have hK := hK.mono hkl
  dsimp only [bankE, List.cons_append, List.nil_append] at N
  (try dsimp only)
  refine apart_make ord fun _ _ _ _ _ _ _ _ _ _ _ _ _ _ _ _ _ _ _ _ _ _ _ _ _ _ _ _ _ _ => ?_
  refine wpAny_call ?_
  (k_dflt ktr_enter; (rename Fr _ _ _ _ => F8); refine fold_fr F8 ?_; clear F8; intro u8 F8)
  (repeat' (first | (k_unfold; (try dsimp only)) | (k_end; wrow_close) | ((with_reducible show wpAny _ _ (getMethod (Value.ref _) "get" _) _ _ _); k_dflt (refine nz_dictMethod (by k_asm) ?k2 (by with_reducible assumption) ?_; (case k2 => k_mem)); (try dsimp only)) | ((with_reducible show wpAny _ _ (call (Value.builtin "dict.get") _) _ _ _); k_dflt (refine' nz_dictGet (by k_asm) ?k2 (by with_reducible assumption) ?k4 (by with_reducible assumption) (by walk_at "nz:units") (by exact KeyIn.mk (by k_mem) (by k_mem)) ?k8 ?_; (case k2 => k_mem); (case k4 => exact KeysIn.mono (by with_reducible assumption) (by repeat' first | with_reducible exact sub_refl | with_reducible refine sub_tail ?_)); (case k8 => with_reducible assumption)); (try dsimp only)) | ((with_reducible show wpAny _ _ (setItem (Value.ref _) (Value.ref _) _) _ _ _); k_dflt (refine' nz_dictSet (by k_asm) (by k_asm) (by k_updF) (by with_reducible assumption) ?k5 (by walk_at "nz:units") (by exact KeyIn.mk (by k_mem) (by k_mem)) ?k8 ?k9 ?_; (case k5 => exact KeysIn.mono (by with_reducible assumption) (by repeat' first | with_reducible exact sub_refl | with_reducible refine sub_tail ?_)); (case k8 => with_reducible assumption); (case k9 => omega)); intro h' o' F' N' hD'; (try dsimp only at N'); (try dsimp only)) | walk1 | (dsimp only; walk1) | (leave1; (try dsimp only)) | fail "no step"))
  (rename Fr _ _ _ _ => F9); (rename News _ _ _ _ => N9)
  (rename _ ∧ _ ∧ _ ∧ _ ∧ _ ∧ _ ∧ _ ∧ AllLt _ rest => hA)
  have N8 := news_mk (b1 := ⟨B, d, n, sn, sw, fn, fa, fr, to, ta, ts, td, nu, t0, t1, t2, t3, t4, t5, t6, t7, t8, t9, t10, t11, t12, v5, v11, v12, kfn, kfa, kfr, kto + 1, kta + 1, kts + 1, ktd + 1, vfn, vfa, vfr, _, _, _, _, _⟩) (es := es) N9
  exact hret _ _ _ _ F9 N8 ⟨_, _, _, _, rfl, by with_reducible assumption, rfl, ktn_ltOf hA⟩
end
section
theorem specU_mono {w : World} {mean : ExcName → Option Value} {mg mb : Str → Option Value} {f : Addr} {dep : Nat} {news news' : Led} {vs : List Value} {R R' : Led → Value → Prop} (H : SpecU w mean mg mb f dep news vs R) (hs : ∀ p ∈ news, p ∈ news') (hR : ∀ nx r, R nx r → R' nx r) : SpecU w mean mg mb f dep news' vs R' :=
  fun dp un gd cn cs a ccd cl outer A₀ base h₀ L m s Q E B F X N T hk hd hu ret => H dp un gd cn cs a ccd cl outer A₀ base h₀ L m s Q E B F X (news_sub N hs) T hk hd hu fun r nx h' tk' F' N' hr => ret r nx h' tk' F' N' (hR nx r hr)
theorem inc_nil {d : Nat} : Inc d [] := True.intro
theorem inc_mk {d x : Nat} {l : List Nat} (h : d < x) (r : Inc x l) : Inc d (x :: l) := ⟨h, r⟩
theorem bank_off {d a : Nat} {l1 l2 : List Nat} {own news : Led} (h : Inc d (l1 ++ a :: l2)) (l0 : ∀ p ∈ news, @LT.lt Nat _ p.1 d) (hs : ∀ x ∈ own.map (fun p : Addr × Obj => p.1), x ∈ d :: (l1 ++ l2)) : ∀ p ∈ own ++ news, p.1 ≠ a := fun p hp => by
  rcases List.mem_append.mp hp with hp | hp
  · rcases List.mem_cons.mp (hs p.1 (List.mem_map_of_mem (f := fun p : Addr × Obj => p.1) hp)) with e | hm
    · rw [e]
      exact Nat.ne_of_lt (h.apart d List.mem_cons_self a List.mem_cons_self)
    rcases List.mem_append.mp hm with hm | hm
    · exact Nat.ne_of_lt (h.apart p.1 (List.mem_cons_of_mem _ hm) a List.mem_cons_self)
    · exact Nat.ne_of_gt (Inc.apart (l := l1 ++ [a]) (r := l2) (by rw [List.append_assoc]; exact h) a (List.mem_cons_of_mem _ (List.mem_append_right _ List.mem_cons_self)) p.1 hm)
  · exact Nat.ne_of_lt (Nat.lt_trans (l0 p hp) (h.apart d List.mem_cons_self a List.mem_cons_self))
section
variable {w : World} {mean : ExcName → Option Value} {mg mb : Str → Option Value} {news : Led} {B d n sn sw fn fa fr to ta ts td nu D0 D1 D2 D3 D4 : Nat} {kfn kfa kfr kto kta kts ktd : Nat} {t0 t1 t2 t3 t4 t5 t6 t7 t8 t9 t10 t11 t12 u0 u1 u2 u3 u4 u5 u6 : Tok} {v5 v11 v12 vo0 va0 vd0 w1 w2 : Value} {osn osw o : Obj}
theorem bank_mk1 (l0 : ∀ p ∈ news, @LT.lt Nat _ p.1 d) (hord : Inc d [B, sn, sw, fn, fa, fr, to, D4, ta, ts, td, nu, D3]) (lo : (nu == sysModules) = false) (hD : BankDict PySem.Challenge.rw_nz0148_01.row.prog w o []) :
    SpecU w mean mg mb 289 4 ((D3, tupO []) :: (nu, o) :: (td, listOf [vd0].toArray ktd) :: (ts, listOf [.int 0 u6].toArray kts) :: (ta, listOf [va0].toArray kta) :: (D4, tupO []) :: (to, listOf [vo0].toArray kto) :: (fr, listOf [].toArray kfr) :: (fa, listOf [].toArray kfa) :: (fn, listOf [].toArray kfn) :: (sw, osw) :: (sn, osn) :: (B, instObj 549 d) :: (d, dictOf [{ hash := PyData.keyHash w.params (Str.ofString "sort_names"), key := .str (Str.ofString "sort_names") t0, val := .ref sn }, { hash := PyData.keyHash w.params (Str.ofString "sort_widths"), key := .str (Str.ofString "sort_widths") t1, val := .ref sw }, { hash := PyData.keyHash w.params (Str.ofString "fun_names"), key := .str (Str.ofString "fun_names") t2, val := .ref fn }, { hash := PyData.keyHash w.params (Str.ofString "fun_args"), key := .str (Str.ofString "fun_args") t3, val := .ref fa }, { hash := PyData.keyHash w.params (Str.ofString "fun_results"), key := .str (Str.ofString "fun_results") t4, val := .ref fr }, { hash := PyData.keyHash w.params (Str.ofString "fresh_count"), key := .str (Str.ofString "fresh_count") t5, val := v5 }, { hash := PyData.keyHash w.params (Str.ofString "term_ops"), key := .str (Str.ofString "term_ops") t6, val := .ref to }, { hash := PyData.keyHash w.params (Str.ofString "term_args"), key := .str (Str.ofString "term_args") t7, val := .ref ta }, { hash := PyData.keyHash w.params (Str.ofString "term_sorts"), key := .str (Str.ofString "term_sorts") t8, val := .ref ts }, { hash := PyData.keyHash w.params (Str.ofString "term_datas"), key := .str (Str.ofString "term_datas") t9, val := .ref td }, { hash := PyData.keyHash w.params (Str.ofString "numbers"), key := .str (Str.ofString "numbers") t10, val := .ref nu }] n) :: news : Led) [.ref B, .str (Str.ofString "true") u3, .ref D3, .int 0 u4, .int 0 u5] (fun nx r => ∃ D o' t t', nx = ((B, instObj 549 d) :: (d, dictOf [{ hash := PyData.keyHash w.params (Str.ofString "sort_names"), key := .str (Str.ofString "sort_names") t0, val := .ref sn }, { hash := PyData.keyHash w.params (Str.ofString "sort_widths"), key := .str (Str.ofString "sort_widths") t1, val := .ref sw }, { hash := PyData.keyHash w.params (Str.ofString "fun_names"), key := .str (Str.ofString "fun_names") t2, val := .ref fn }, { hash := PyData.keyHash w.params (Str.ofString "fun_args"), key := .str (Str.ofString "fun_args") t3, val := .ref fa }, { hash := PyData.keyHash w.params (Str.ofString "fun_results"), key := .str (Str.ofString "fun_results") t4, val := .ref fr }, { hash := PyData.keyHash w.params (Str.ofString "fresh_count"), key := .str (Str.ofString "fresh_count") t5, val := v5 }, { hash := PyData.keyHash w.params (Str.ofString "term_ops"), key := .str (Str.ofString "term_ops") t6, val := .ref to }, { hash := PyData.keyHash w.params (Str.ofString "term_args"), key := .str (Str.ofString "term_args") t7, val := .ref ta }, { hash := PyData.keyHash w.params (Str.ofString "term_sorts"), key := .str (Str.ofString "term_sorts") t8, val := .ref ts }, { hash := PyData.keyHash w.params (Str.ofString "term_datas"), key := .str (Str.ofString "term_datas") t9, val := .ref td }, { hash := PyData.keyHash w.params (Str.ofString "numbers"), key := .str (Str.ofString "numbers") t10, val := .ref nu }] n) :: (to, listOf [vo0, .str (Str.ofString "true") u3].toArray (kto + 1)) :: (ta, listOf [va0, .ref D3].toArray (kta + 1)) :: (ts, listOf [.int 0 u6, .int 0 u4].toArray (kts + 1)) :: (td, listOf [vd0, .int 0 u5].toArray (ktd + 1)) :: (nu, o') :: (D, tupO [.str (Str.ofString "true") u3, .ref D3, .int 0 u4, .int 0 u5]) :: (D3, tupO []) :: (D4, tupO []) :: (fr, listOf [].toArray kfr) :: (fa, listOf [].toArray kfa) :: (fn, listOf [].toArray kfn) :: (sw, osw) :: (sn, osn) :: news : Led) ∧ BankDict PySem.Challenge.rw_nz0148_01.row.prog w o' [((Str.ofString "true", 0, 0), D, .int 1 t)] ∧ r = .int 1 t' ∧ @LT.lt Nat _ D3 D) :=
  specU_mono (make_spec (news := []) (b := ⟨B, d, n, sn, sw, fn, fa, fr, to, ta, ts, td, nu, t0, t1, t2, t3, t4, t5, t6, t7, t8, t9, t10, t0, t0, v5, v5, v5, kfn, kfa, kfr, kto, kta, kts, ktd, [], [], [], [vo0], [va0], [.int 0 u6], [vd0], o⟩) (es := []) (rest := [(D3, tupO []), (D4, tupO []), (fr, listOf [].toArray kfr), (fa, listOf [].toArray kfa), (fn, listOf [].toArray kfn), (sw, osw), (sn, osn)] ++ news) hD (kl := []) keysIn_nil (fun _ h => nomatch h) List.mem_cons_self fresh_nil (Nat.zero_le _) ⟨hord.1, Nat.lt_trans hord.2.1 (Nat.lt_trans hord.2.2.1 (Nat.lt_trans hord.2.2.2.1 (Nat.lt_trans hord.2.2.2.2.1 (Nat.lt_trans hord.2.2.2.2.2.1 hord.2.2.2.2.2.2.1)))), Nat.lt_trans hord.2.2.2.2.2.2.2.1 hord.2.2.2.2.2.2.2.2.1, hord.2.2.2.2.2.2.2.2.2.1, hord.2.2.2.2.2.2.2.2.2.2.1, hord.2.2.2.2.2.2.2.2.2.2.2.1⟩
    (bank_off (l1 := [B, sn, sw, fn, fa, fr]) (l2 := [D4, ta, ts, td, nu, D3]) (own := [(D3, tupO []), (D4, tupO []), (fr, listOf [].toArray kfr), (fa, listOf [].toArray kfa), (fn, listOf [].toArray kfn), (sw, osw), (sn, osn)]) hord l0 (by (iterate 7 refine List.forall_mem_cons.mpr ⟨by repeat (first | exact List.mem_cons_self | refine List.mem_cons_of_mem _ ?_), ?_⟩); exact List.forall_mem_nil _)) (bank_off (l1 := [B, sn, sw, fn, fa, fr, to, D4]) (l2 := [ts, td, nu, D3]) (own := [(D3, tupO []), (D4, tupO []), (fr, listOf [].toArray kfr), (fa, listOf [].toArray kfa), (fn, listOf [].toArray kfn), (sw, osw), (sn, osn)]) hord l0 (by (iterate 7 refine List.forall_mem_cons.mpr ⟨by repeat (first | exact List.mem_cons_self | refine List.mem_cons_of_mem _ ?_), ?_⟩); exact List.forall_mem_nil _)) (bank_off (l1 := [B, sn, sw, fn, fa, fr, to, D4, ta]) (l2 := [td, nu, D3]) (own := [(D3, tupO []), (D4, tupO []), (fr, listOf [].toArray kfr), (fa, listOf [].toArray kfa), (fn, listOf [].toArray kfn), (sw, osw), (sn, osn)]) hord l0 (by (iterate 7 refine List.forall_mem_cons.mpr ⟨by repeat (first | exact List.mem_cons_self | refine List.mem_cons_of_mem _ ?_), ?_⟩); exact List.forall_mem_nil _)) (bank_off (l1 := [B, sn, sw, fn, fa, fr, to, D4, ta, ts]) (l2 := [nu, D3]) (own := [(D3, tupO []), (D4, tupO []), (fr, listOf [].toArray kfr), (fa, listOf [].toArray kfa), (fn, listOf [].toArray kfn), (sw, osw), (sn, osn)]) hord l0 (by (iterate 7 refine List.forall_mem_cons.mpr ⟨by repeat (first | exact List.mem_cons_self | refine List.mem_cons_of_mem _ ?_), ?_⟩); exact List.forall_mem_nil _)) (bank_off (l1 := [B, sn, sw, fn, fa, fr, to, D4, ta, ts, td]) (l2 := [D3]) (own := [(D3, tupO []), (D4, tupO []), (fr, listOf [].toArray kfr), (fa, listOf [].toArray kfa), (fn, listOf [].toArray kfn), (sw, osw), (sn, osn)]) hord l0 (by (iterate 7 refine List.forall_mem_cons.mpr ⟨by repeat (first | exact List.mem_cons_self | refine List.mem_cons_of_mem _ ?_), ?_⟩); exact List.forall_mem_nil _)) (Nat.le_of_ble_eq_true rfl) (Nat.le_of_ble_eq_true rfl) (Nat.le_of_ble_eq_true rfl) (Nat.le_of_ble_eq_true rfl) lo) (by (iterate 7 refine sub_cons (by k_mem) ?_); (iterate 7 refine sub_cons (by k_mem) ?_); (repeat (refine sub_tail ?_)); exact (fun p hp => hp))
    (fun nx r => by rintro ⟨D, o', t, t', rfl, h1, rfl, h2⟩; exact ⟨D, o', t, t', rfl, h1, rfl, h2 (D3, tupO []) (by k_mem)⟩)
theorem bank_mk2 (l0 : ∀ p ∈ news, @LT.lt Nat _ p.1 d) (hord : Inc d [B, sn, sw, fn, fa, fr, to, D4, ta, ts, td, nu, D3, D2, D1]) (lo : (nu == sysModules) = false) (hD : BankDict PySem.Challenge.rw_nz0148_01.row.prog w o [((Str.ofString "true", 0, 0), D2, w1)]) :
    SpecU w mean mg mb 289 4 ((D1, tupO []) :: (B, instObj 549 d) :: (d, dictOf [{ hash := PyData.keyHash w.params (Str.ofString "sort_names"), key := .str (Str.ofString "sort_names") t0, val := .ref sn }, { hash := PyData.keyHash w.params (Str.ofString "sort_widths"), key := .str (Str.ofString "sort_widths") t1, val := .ref sw }, { hash := PyData.keyHash w.params (Str.ofString "fun_names"), key := .str (Str.ofString "fun_names") t2, val := .ref fn }, { hash := PyData.keyHash w.params (Str.ofString "fun_args"), key := .str (Str.ofString "fun_args") t3, val := .ref fa }, { hash := PyData.keyHash w.params (Str.ofString "fun_results"), key := .str (Str.ofString "fun_results") t4, val := .ref fr }, { hash := PyData.keyHash w.params (Str.ofString "fresh_count"), key := .str (Str.ofString "fresh_count") t5, val := v5 }, { hash := PyData.keyHash w.params (Str.ofString "term_ops"), key := .str (Str.ofString "term_ops") t6, val := .ref to }, { hash := PyData.keyHash w.params (Str.ofString "term_args"), key := .str (Str.ofString "term_args") t7, val := .ref ta }, { hash := PyData.keyHash w.params (Str.ofString "term_sorts"), key := .str (Str.ofString "term_sorts") t8, val := .ref ts }, { hash := PyData.keyHash w.params (Str.ofString "term_datas"), key := .str (Str.ofString "term_datas") t9, val := .ref td }, { hash := PyData.keyHash w.params (Str.ofString "numbers"), key := .str (Str.ofString "numbers") t10, val := .ref nu }, { hash := PyData.keyHash w.params (Str.ofString "true_number"), key := .str (Str.ofString "true_number") t11, val := v11 }] n) :: (to, listOf [vo0, .str (Str.ofString "true") u3].toArray (kto + 1)) :: (ta, listOf [va0, .ref D3].toArray (kta + 1)) :: (ts, listOf [.int 0 u6, .int 0 u4].toArray (kts + 1)) :: (td, listOf [vd0, .int 0 u5].toArray (ktd + 1)) :: (nu, o) :: (D2, tupO [.str (Str.ofString "true") u3, .ref D3, .int 0 u4, .int 0 u5]) :: (D3, tupO []) :: (D4, tupO []) :: (fr, listOf [].toArray kfr) :: (fa, listOf [].toArray kfa) :: (fn, listOf [].toArray kfn) :: (sw, osw) :: (sn, osn) :: news : Led) [.ref B, .str (Str.ofString "false") u0, .ref D1, .int 0 u1, .int 0 u2] (fun nx r => ∃ D o' t t', nx = ((B, instObj 549 d) :: (d, dictOf [{ hash := PyData.keyHash w.params (Str.ofString "sort_names"), key := .str (Str.ofString "sort_names") t0, val := .ref sn }, { hash := PyData.keyHash w.params (Str.ofString "sort_widths"), key := .str (Str.ofString "sort_widths") t1, val := .ref sw }, { hash := PyData.keyHash w.params (Str.ofString "fun_names"), key := .str (Str.ofString "fun_names") t2, val := .ref fn }, { hash := PyData.keyHash w.params (Str.ofString "fun_args"), key := .str (Str.ofString "fun_args") t3, val := .ref fa }, { hash := PyData.keyHash w.params (Str.ofString "fun_results"), key := .str (Str.ofString "fun_results") t4, val := .ref fr }, { hash := PyData.keyHash w.params (Str.ofString "fresh_count"), key := .str (Str.ofString "fresh_count") t5, val := v5 }, { hash := PyData.keyHash w.params (Str.ofString "term_ops"), key := .str (Str.ofString "term_ops") t6, val := .ref to }, { hash := PyData.keyHash w.params (Str.ofString "term_args"), key := .str (Str.ofString "term_args") t7, val := .ref ta }, { hash := PyData.keyHash w.params (Str.ofString "term_sorts"), key := .str (Str.ofString "term_sorts") t8, val := .ref ts }, { hash := PyData.keyHash w.params (Str.ofString "term_datas"), key := .str (Str.ofString "term_datas") t9, val := .ref td }, { hash := PyData.keyHash w.params (Str.ofString "numbers"), key := .str (Str.ofString "numbers") t10, val := .ref nu }, { hash := PyData.keyHash w.params (Str.ofString "true_number"), key := .str (Str.ofString "true_number") t11, val := v11 }] n) :: (to, listOf [vo0, .str (Str.ofString "true") u3, .str (Str.ofString "false") u0].toArray (kto + 1 + 1)) :: (ta, listOf [va0, .ref D3, .ref D1].toArray (kta + 1 + 1)) :: (ts, listOf [.int 0 u6, .int 0 u4, .int 0 u1].toArray (kts + 1 + 1)) :: (td, listOf [vd0, .int 0 u5, .int 0 u2].toArray (ktd + 1 + 1)) :: (nu, o') :: (D, tupO [.str (Str.ofString "false") u0, .ref D1, .int 0 u1, .int 0 u2]) :: (D1, tupO []) :: (D2, tupO [.str (Str.ofString "true") u3, .ref D3, .int 0 u4, .int 0 u5]) :: (D3, tupO []) :: (D4, tupO []) :: (fr, listOf [].toArray kfr) :: (fa, listOf [].toArray kfa) :: (fn, listOf [].toArray kfn) :: (sw, osw) :: (sn, osn) :: news : Led) ∧ BankDict PySem.Challenge.rw_nz0148_01.row.prog w o' [((Str.ofString "true", 0, 0), D2, w1), ((Str.ofString "false", 0, 0), D, .int 2 t)] ∧ r = .int 2 t' ∧ @LT.lt Nat _ D1 D) :=
  specU_mono (make_spec (news := []) (b := ⟨B, d, n, sn, sw, fn, fa, fr, to, ta, ts, td, nu, t0, t1, t2, t3, t4, t5, t6, t7, t8, t9, t10, t11, t0, v5, v11, v5, kfn, kfa, kfr, kto + 1, kta + 1, kts + 1, ktd + 1, [], [], [], [vo0, .str (Str.ofString "true") u3], [va0, .ref D3], [.int 0 u6, .int 0 u4], [vd0, .int 0 u5], o⟩) (es := [{ hash := PyData.keyHash w.params (Str.ofString "true_number"), key := .str (Str.ofString "true_number") t11, val := v11 }]) (rest := [(D1, tupO []), (D2, tupO [.str (Str.ofString "true") u3, .ref D3, .int 0 u4, .int 0 u5]), (D3, tupO []), (D4, tupO []), (fr, listOf [].toArray kfr), (fa, listOf [].toArray kfa), (fn, listOf [].toArray kfn), (sw, osw), (sn, osn)] ++ news) hD (kl := [(D2, tupO [.str (Str.ofString "true") u3, .ref D3, .int 0 u4, .int 0 u5]), (D3, tupO [])]) (keysIn_cons (KeyIn.mk List.mem_cons_self (List.mem_cons_of_mem _ List.mem_cons_self)) keysIn_nil) (sub_cons (by k_mem) (sub_cons (by k_mem) sub_nil)) List.mem_cons_self (fresh_cons (by decide) fresh_nil) (Nat.le_of_ble_eq_true rfl) ⟨hord.1, Nat.lt_trans hord.2.1 (Nat.lt_trans hord.2.2.1 (Nat.lt_trans hord.2.2.2.1 (Nat.lt_trans hord.2.2.2.2.1 (Nat.lt_trans hord.2.2.2.2.2.1 hord.2.2.2.2.2.2.1)))), Nat.lt_trans hord.2.2.2.2.2.2.2.1 hord.2.2.2.2.2.2.2.2.1, hord.2.2.2.2.2.2.2.2.2.1, hord.2.2.2.2.2.2.2.2.2.2.1, hord.2.2.2.2.2.2.2.2.2.2.2.1⟩
    (bank_off (l1 := [B, sn, sw, fn, fa, fr]) (l2 := [D4, ta, ts, td, nu, D3, D2, D1]) (own := [(D1, tupO []), (D2, tupO [.str (Str.ofString "true") u3, .ref D3, .int 0 u4, .int 0 u5]), (D3, tupO []), (D4, tupO []), (fr, listOf [].toArray kfr), (fa, listOf [].toArray kfa), (fn, listOf [].toArray kfn), (sw, osw), (sn, osn)]) hord l0 (by (iterate 9 refine List.forall_mem_cons.mpr ⟨by repeat (first | exact List.mem_cons_self | refine List.mem_cons_of_mem _ ?_), ?_⟩); exact List.forall_mem_nil _)) (bank_off (l1 := [B, sn, sw, fn, fa, fr, to, D4]) (l2 := [ts, td, nu, D3, D2, D1]) (own := [(D1, tupO []), (D2, tupO [.str (Str.ofString "true") u3, .ref D3, .int 0 u4, .int 0 u5]), (D3, tupO []), (D4, tupO []), (fr, listOf [].toArray kfr), (fa, listOf [].toArray kfa), (fn, listOf [].toArray kfn), (sw, osw), (sn, osn)]) hord l0 (by (iterate 9 refine List.forall_mem_cons.mpr ⟨by repeat (first | exact List.mem_cons_self | refine List.mem_cons_of_mem _ ?_), ?_⟩); exact List.forall_mem_nil _)) (bank_off (l1 := [B, sn, sw, fn, fa, fr, to, D4, ta]) (l2 := [td, nu, D3, D2, D1]) (own := [(D1, tupO []), (D2, tupO [.str (Str.ofString "true") u3, .ref D3, .int 0 u4, .int 0 u5]), (D3, tupO []), (D4, tupO []), (fr, listOf [].toArray kfr), (fa, listOf [].toArray kfa), (fn, listOf [].toArray kfn), (sw, osw), (sn, osn)]) hord l0 (by (iterate 9 refine List.forall_mem_cons.mpr ⟨by repeat (first | exact List.mem_cons_self | refine List.mem_cons_of_mem _ ?_), ?_⟩); exact List.forall_mem_nil _)) (bank_off (l1 := [B, sn, sw, fn, fa, fr, to, D4, ta, ts]) (l2 := [nu, D3, D2, D1]) (own := [(D1, tupO []), (D2, tupO [.str (Str.ofString "true") u3, .ref D3, .int 0 u4, .int 0 u5]), (D3, tupO []), (D4, tupO []), (fr, listOf [].toArray kfr), (fa, listOf [].toArray kfa), (fn, listOf [].toArray kfn), (sw, osw), (sn, osn)]) hord l0 (by (iterate 9 refine List.forall_mem_cons.mpr ⟨by repeat (first | exact List.mem_cons_self | refine List.mem_cons_of_mem _ ?_), ?_⟩); exact List.forall_mem_nil _)) (bank_off (l1 := [B, sn, sw, fn, fa, fr, to, D4, ta, ts, td]) (l2 := [D3, D2, D1]) (own := [(D1, tupO []), (D2, tupO [.str (Str.ofString "true") u3, .ref D3, .int 0 u4, .int 0 u5]), (D3, tupO []), (D4, tupO []), (fr, listOf [].toArray kfr), (fa, listOf [].toArray kfa), (fn, listOf [].toArray kfn), (sw, osw), (sn, osn)]) hord l0 (by (iterate 9 refine List.forall_mem_cons.mpr ⟨by repeat (first | exact List.mem_cons_self | refine List.mem_cons_of_mem _ ?_), ?_⟩); exact List.forall_mem_nil _)) (Nat.le_of_ble_eq_true rfl) (Nat.le_of_ble_eq_true rfl) (Nat.le_of_ble_eq_true rfl) (Nat.le_of_ble_eq_true rfl) lo) (by (iterate 7 refine sub_cons (by k_mem) ?_); (iterate 9 refine sub_cons (by k_mem) ?_); (repeat (refine sub_tail ?_)); exact (fun p hp => hp))
    (fun nx r => by rintro ⟨D, o', t, t', rfl, h1, rfl, h2⟩; exact ⟨D, o', t, t', rfl, h1, rfl, h2 (D1, tupO []) (by k_mem)⟩)
theorem bank_fin (l0 : ∀ p ∈ news, @LT.lt Nat _ p.1 d) (hord : Inc d ([B, sn, sw, fn, fa, fr, to, D4, ta, ts, td, nu] ++ [D3, D2, D1, D0])) (lo : (nu == sysModules) = false)
    (hd : BankDict PySem.Challenge.rw_nz0148_01.row.prog w o [((Str.ofString "true", 0, 0), D2, w1), ((Str.ofString "false", 0, 0), D0, w2)]) :
    ∃ b tl', Value.ref B = .ref b.B ∧ (∀ p ∈ bankLed w b ++ tl', p ∈ ([(B, instObj 549 d), (d, dictOf [{ hash := PyData.keyHash w.params (Str.ofString "sort_names"), key := .str (Str.ofString "sort_names") t0, val := .ref sn }, { hash := PyData.keyHash w.params (Str.ofString "sort_widths"), key := .str (Str.ofString "sort_widths") t1, val := .ref sw }, { hash := PyData.keyHash w.params (Str.ofString "fun_names"), key := .str (Str.ofString "fun_names") t2, val := .ref fn }, { hash := PyData.keyHash w.params (Str.ofString "fun_args"), key := .str (Str.ofString "fun_args") t3, val := .ref fa }, { hash := PyData.keyHash w.params (Str.ofString "fun_results"), key := .str (Str.ofString "fun_results") t4, val := .ref fr }, { hash := PyData.keyHash w.params (Str.ofString "fresh_count"), key := .str (Str.ofString "fresh_count") t5, val := v5 }, { hash := PyData.keyHash w.params (Str.ofString "term_ops"), key := .str (Str.ofString "term_ops") t6, val := .ref to }, { hash := PyData.keyHash w.params (Str.ofString "term_args"), key := .str (Str.ofString "term_args") t7, val := .ref ta }, { hash := PyData.keyHash w.params (Str.ofString "term_sorts"), key := .str (Str.ofString "term_sorts") t8, val := .ref ts }, { hash := PyData.keyHash w.params (Str.ofString "term_datas"), key := .str (Str.ofString "term_datas") t9, val := .ref td }, { hash := PyData.keyHash w.params (Str.ofString "numbers"), key := .str (Str.ofString "numbers") t10, val := .ref nu }, { hash := PyData.keyHash w.params (Str.ofString "true_number"), key := .str (Str.ofString "true_number") t11, val := v11 }, { hash := PyData.keyHash w.params (Str.ofString "false_number"), key := .str (Str.ofString "false_number") t12, val := v12 }] n), (to, listOf [vo0, .str (Str.ofString "true") u3, .str (Str.ofString "false") u0].toArray (kto + 1 + 1)), (ta, listOf [va0, .ref D3, .ref D1].toArray (kta + 1 + 1)), (ts, listOf [.int 0 u6, .int 0 u4, .int 0 u1].toArray (kts + 1 + 1)), (td, listOf [vd0, .int 0 u5, .int 0 u2].toArray (ktd + 1 + 1)), (nu, o), (D0, tupO [.str (Str.ofString "false") u0, .ref D1, .int 0 u1, .int 0 u2]), (D1, tupO []), (D2, tupO [.str (Str.ofString "true") u3, .ref D3, .int 0 u4, .int 0 u5]), (D3, tupO []), (D4, tupO []), (fr, listOf [].toArray kfr), (fa, listOf [].toArray kfa), (fn, listOf [].toArray kfn), (sw, osw), (sn, osn)] : Led)) ∧ (∀ p ∈ bankLed w b ++ tl', ∀ q ∈ news, q.1 < p.1) ∧ BankG w b [0, 0, 0] 0 tl' := by
  refine ⟨⟨B, d, n, sn, sw, fn, fa, fr, to, ta, ts, td, nu, t0, t1, t2, t3, t4, t5, t6, t7, t8, t9, t10, t11, t12, v5, v11, v12, kfn, kfa, kfr, kto + 1 + 1, kta + 1 + 1, kts + 1 + 1, ktd + 1 + 1, [], [], [], [vo0, .str (Str.ofString "true") u3, .str (Str.ofString "false") u0], [va0, .ref D3, .ref D1], [.int 0 u6, .int 0 u4, .int 0 u1], [vd0, .int 0 u5, .int 0 u2], o⟩,
    [(D0, tupO [.str (Str.ofString "false") u0, .ref D1, .int 0 u1, .int 0 u2]), (D1, tupO []), (D2, tupO [.str (Str.ofString "true") u3, .ref D3, .int 0 u4, .int 0 u5]), (D3, tupO [])], rfl, ?_, ?_, ?_⟩
  · refine sub_both ?_ ?_
    · iterate 10 refine sub_cons (by repeat (first | exact List.mem_cons_self | refine List.mem_cons_of_mem _ ?_)) ?_
      exact sub_nil
    · iterate 4 refine sub_cons (by repeat (first | exact List.mem_cons_self | refine List.mem_cons_of_mem _ ?_)) ?_
      exact sub_nil
  · refine gt_all l0 ?_
    show ∀ a ∈ [B, d, fn, fa, fr, to, ta, ts, td, nu, D0, D1, D2, D3], d ≤ a
    exact inc_list hord (l' := [B, d, fn, fa, fr, to, ta, ts, td, nu, D0, D1, D2, D3]) (by
      iterate 14 refine List.forall_mem_cons.mpr ⟨by repeat (first | exact List.mem_cons_self | refine List.mem_cons_of_mem _ ?_), ?_⟩
      exact List.forall_mem_nil _)
  · refine ⟨?_, ?_, rfl, rfl, rfl, rfl, rfl, rfl, rfl, .cons ⟨_, rfl⟩ (.cons ⟨_, rfl⟩ (.cons ⟨_, rfl⟩ .nil)), lo, _, hd,
      keysIn_cons (KeyIn.mk (List.mem_cons_of_mem _ (List.mem_cons_of_mem _ List.mem_cons_self)) (List.mem_cons_of_mem _ (List.mem_cons_of_mem _ (List.mem_cons_of_mem _ List.mem_cons_self)))) (keysIn_cons (KeyIn.mk List.mem_cons_self (List.mem_cons_of_mem _ List.mem_cons_self)) keysIn_nil), rfl, app_cons (by decide) (app_cons (by decide) app_nil)⟩
    · exact ⟨hord.1, Nat.lt_trans hord.2.1 (Nat.lt_trans hord.2.2.1 hord.2.2.2.1), hord.2.2.2.2.1, hord.2.2.2.2.2.1, hord.2.2.2.2.2.2.1, Nat.lt_trans hord.2.2.2.2.2.2.2.1 hord.2.2.2.2.2.2.2.2.1, hord.2.2.2.2.2.2.2.2.2.1, hord.2.2.2.2.2.2.2.2.2.2.1, hord.2.2.2.2.2.2.2.2.2.2.2.1⟩
    · have key := inc_off hord (l' := [B, d, fn, fa, fr, to, ta, ts, td, nu]) (by
        iterate 10 refine List.forall_mem_cons.mpr ⟨by repeat (first | exact List.mem_cons_self | refine List.mem_cons_of_mem _ ?_), ?_⟩
        exact List.forall_mem_nil _)
      exact List.forall_mem_cons.mpr ⟨key D0 (by repeat (first | exact List.mem_cons_self | refine List.mem_cons_of_mem _ ?_)), List.forall_mem_cons.mpr ⟨key D1 (by repeat (first | exact List.mem_cons_self | refine List.mem_cons_of_mem _ ?_)), List.forall_mem_cons.mpr ⟨key D2 (by repeat (first | exact List.mem_cons_self | refine List.mem_cons_of_mem _ ?_)), List.forall_mem_cons.mpr ⟨key D3 List.mem_cons_self, List.forall_mem_nil _⟩⟩⟩⟩
end
set_option maxHeartbeats 8000000 in
theorem bank_spec {w : World} {mean : ExcName → Option Value} {mg mb : Str → Option Value} {news : Led} : Spec w mean mg mb 549 8 news [] (fun tl r => ∃ b tl', r = .ref b.B ∧ (∀ p ∈ bankLed w b ++ tl', p ∈ tl) ∧ (∀ p ∈ bankLed w b ++ tl', ∀ q ∈ news, q.1 < p.1) ∧ BankG w b [0, 0, 0] 0 tl') := by
  unfold Spec
  k_fill
  intro dp un gd cn cs a ccd cl outer A₀ base h₀ L m s Q E B F X N T hk hd hu hret
  (repeat' (first | (k_unfold; (try dsimp only)) | (k_end; wrow_close) | ((with_reducible show wpAny _ _ (call (Value.ref _) _) _ _ _); first | ((with_reducible show wpAny _ _ (call (Value.ref 289) _) _ _ _); k_dflt (first | refine' specU_use (bank_mk1 ?l0 ?ord ?lo ?hD) ?k1 ?k2 ?k3 ?k4 ?k5 rfl ?kd ?ku ?_; (case k4 => ((rename News _ _ _ _ => N8); exact N8)); (case hD => exact bankDict_nil (by with_reducible assumption)) | refine' specU_use (bank_mk2 ?l0 ?ord ?lo ?hD) ?k1 ?k2 ?k3 ?k4 ?k5 rfl ?kd ?ku ?_; (case k4 => ((rename News _ _ _ _ => N8); exact N8)); (case hD => with_reducible assumption)); (case l0 => with_reducible assumption); (case ord => repeat' first | exact inc_nil | refine inc_mk (by first | exact lt_lo (by with_reducible assumption) (by k_mem) | omega) ?_); (case lo => with_reducible assumption); (case k1 => k_asm); (case k2 => k_asm); (case k3 => k_asm); (case k5 => k_asm); (case kd => ktr_room); (case ku => first | ktr_units | (simp only [units_under_make, units_deeper]; (try dsimp only [ktrTop]); omega)); k_dflt (rintro _ _ h9 tk9 F9 N9 ⟨D9, o9, t9, u9, e9, hD9, f9, l9⟩; subst e9; subst f9; (try k_lt l9); (try dsimp only [List.cons_append, List.nil_append] at N9); (try k_fold); (try dsimp only))) | (k_dflt (refine' call_cls ?k1 ?k2 ?k3 ?k4 ?k5 ?k6 ?_; (case k1 => k_asm); (case k2 => k_asm); (case k3 => k_asm); (case k4 => k_is); (case k5 => k_is); (case k6 => k_is); k_whole; intro x' d' h' F' N' l1 l2; (try k_lt l1); (try k_lt2 l2); (try k_sweep); refine' code_def ?k1 ?k2 ?k3 ?k4 ?k5 ?kA ?kF ?kK ?k6 ?k7 ?k8 ?k9 ?kB ?_ ?c2 ?c3 ?c4 ?c5; (case kA => exact rfl); (case kF => exact rfl); (case kK => first | exact rfl | assumption); (case k1 => k_asm); (case k2 => k_asm); (case k3 => k_asm); (case k4 => k_asm); (case k5 => k_asm); (case k6 => k_is); (case k7 => k_is); (case k8 => ktr_room); (case k9 => exact BindsTo.of_eq rfl); (case c5 => decide); (case kB => exact locs rfl); (case c2 => exact rfl); (case c3 => exact rfl); (case c4 => exact rfl); k_whole; intro g' L' h' FG' F' N' B' X' T'; (try dsimp only); (try k_fold))) | ((with_reducible show wpAny _ _ (call (Value.ref 624) _) _ _ _); walk_at "nz:rt"; (· k_dflt (apply sum_spec <;> walk_at "nz:p")); walk_at "nz:rt2")) | walk1 | (dsimp only; walk1) | (leave1; (try dsimp only)) | fail "no step"))
  (rename ∀ p ∈ news, p.1 < _ => l0)
  refine hret _ _ _ _ (by k_asm) (by (rename News _ _ _ _ => N9); exact N9) (bank_fin l0 ?_ (by with_reducible assumption) (by with_reducible assumption))
  repeat' first | exact inc_nil | refine inc_mk (by first | exact lt_lo (by with_reducible assumption) (by k_mem) | omega) ?_
end
section
theorem fresh_app {i : Nat} {so j : Int} {xs : List ((Str × Int × Int) × Addr × Value)} (h : AppLt (i : Int) xs) (hj : (i : Int) ≤ j) : FreshK (Str.ofString "app", so, j) xs := fun x hx e => by
  have := h x hx (by rw [e])
  rw [e] at this
  exact absurd this (Int.not_lt.mpr hj)
/-- the bank's last two attributes -/
def bankEs (w : World) (b : BankS) : List DictEntry := [{ hash := PyData.keyHash w.params (Str.ofString "true_number"), key := .str (Str.ofString "true_number") b.t11, val := b.v11 }, { hash := PyData.keyHash w.params (Str.ofString "false_number"), key := .str (Str.ofString "false_number") b.t12, val := b.v12 }]
theorem fresh_pre {w : World} {h₀ h : Heap} {L : Addr} {q1 q2 : Addr × Obj} {b : BankS} {rest : Led} (N : News h₀ L h (q1 :: q2 :: (bankLed w b ++ rest))) : News h₀ L h (bankE w b (bankEs w b) ++ ((b.fn, listOf b.vfn.toArray b.kfn) :: (b.fa, listOf b.vfa.toArray b.kfa) :: (b.fr, listOf b.vfr.toArray b.kfr) :: q1 :: q2 :: rest)) := by
  dsimp only [bankLed, bankE, bankEs, List.cons_append, List.nil_append] at N ⊢
  exact news_sub N (by (iterate 12 refine sub_cons (by k_mem) ?_); exact (by repeat' first | with_reducible exact sub_refl | with_reducible refine sub_tail ?_))
theorem fresh_post {w : World} {h₀ h : Heap} {L : Addr} {q0 q1 q2 : Addr × Obj} {b : BankS} {rest : Led} (N : News h₀ L h (bankE w b (bankEs w b) ++ (q0 :: (b.fn, listOf b.vfn.toArray b.kfn) :: (b.fa, listOf b.vfa.toArray b.kfa) :: (b.fr, listOf b.vfr.toArray b.kfr) :: q1 :: q2 :: rest))) : News h₀ L h (bankLed w b ++ ([q0, q1, q2] ++ rest)) := by
  dsimp only [bankLed, bankE, bankEs, List.cons_append, List.nil_append] at N ⊢
  exact news_sub N (by (iterate 13 refine sub_cons (by k_mem) ?_); exact (by repeat' first | with_reducible exact sub_refl | with_reducible refine sub_tail ?_))
theorem bank_addr {w : World} {b : BankS} {rest : Led} {D : Nat} (h : ∀ q ∈ bankLed w b ++ rest, q.1 < D) {D' : Nat} (hD : @LE.le Nat _ D D') : D' ∉ b.addrs := fun hm => by
  obtain ⟨q, hq, e⟩ := List.mem_map.mp (show D' ∈ (bankLed w b).map (fun p : Addr × Obj => p.1) from hm)
  have := h q (List.mem_append_left _ hq)
  rw [show q.1 = D' from e] at this
  exact absurd hD (Nat.not_le.mpr this)
theorem fresh_offs {rest : Led} {D1 D2 fn fa fr a : Nat} (h1 : fn < fa) (h2 : fa < fr) (ha : fr < a) (h3 : a < D2) (h : D2 < D1) (hr : ∀ p ∈ rest, p.1 ≠ a) {o1 o2 o3 o4 o5 : Obj} :
    ∀ p ∈ (((fn, o1) :: (fa, o2) :: (fr, o3) :: (D1, o4) :: (D2, o5) :: rest) : Led), p.1 ≠ a :=
  List.forall_mem_cons.mpr ⟨Nat.ne_of_lt (Nat.lt_trans h1 (Nat.lt_trans h2 ha)), List.forall_mem_cons.mpr ⟨Nat.ne_of_lt (Nat.lt_trans h2 ha), List.forall_mem_cons.mpr ⟨Nat.ne_of_lt ha,
    List.forall_mem_cons.mpr ⟨Nat.ne_of_gt (Nat.lt_trans h3 h), List.forall_mem_cons.mpr ⟨Nat.ne_of_gt h3, hr⟩⟩⟩⟩⟩
theorem fresh_fin {w : World} {b : BankS} {srt : List Int} {i : Nat} {kl rest : Led} (G : BankG w b srt i kl) {D0 D1 D2 : Nat} (hlt : ∀ q ∈ bankLed w b ++ rest, q.1 < D2) (h2 : D2 < D1) (h1 : D1 < D0) {xs : List ((Str × Int × Int) × Addr × Value)} (hK : KeysIn kl xs) (hxl : xs.length = 2 + i) (hap : AppLt (i : Int) xs)
    {o' : Obj} {so j : Int} {val xn xa xo xta xtd : Value} {u1 u2 u3 tso t : Tok} (hj : j = (i : Int)) (hD : BankDict PySem.Challenge.rw_nz0148_01.row.prog w o' (xs ++ [((Str.ofString "app", so, j), D0, val)])) {lv : Nat} (hv : lv = 3 + i) :
    ∃ b' tl t', bankLed w { b with vfn := b.vfn ++ [xn], kfn := b.kfn + 1, vfa := b.vfa ++ [xa], kfa := b.kfa + 1, vfr := b.vfr ++ [.int so tso], kfr := b.kfr + 1, vto := b.vto ++ [xo], kto := b.kto + 1, vta := b.vta ++ [xta], kta := b.kta + 1, vts := b.vts ++ [.int so tso], kts := b.kts + 1, vtd := b.vtd ++ [xtd], ktd := b.ktd + 1, o := o' } ++ ([(D0, tupO [.str (Str.ofString "app") u1, .ref D2, .int so u2, .int j u3]), (D1, tupO []), (D2, tupO [])] ++ rest) = bankLed w b' ++ (tl ++ rest) ∧ b'.addrs = b.addrs ∧ b'.B = b.B ∧ BankG w b' (srt ++ [so]) (i + 1) (tl ++ kl) ∧ Value.int (lv : Int) t = .int (3 + (i : Int)) t' ∧ (∀ p ∈ tl, ∀ q ∈ bankLed w b ++ rest, q.1 < p.1) := by
  subst hj
  refine ⟨_, [(D0, tupO [.str (Str.ofString "app") u1, .ref D2, .int so u2, .int (i : Int) u3]), (D1, tupO []), (D2, tupO [])], t, rfl, rfl, rfl, ?_, by rw [hv]; congr 1, ?_⟩
  · refine ⟨G.ord, ?_, ?_, ?_, ?_, ?_, ?_, ?_, ?_, ?_, G.lo, _, hD, ?_, ?_, ?_⟩
    · intro p hp
      rcases List.mem_append.mp hp with hp | hp
      · rcases List.mem_cons.mp hp with rfl | hp
        · exact bank_addr hlt (show D2 ≤ D0 by omega)
        rcases List.mem_cons.mp hp with rfl | hp
        · exact bank_addr hlt (show D2 ≤ D1 by omega)
        rcases List.mem_cons.mp hp with rfl | hp
        · exact bank_addr hlt (Nat.le_refl _)
        · exact nomatch hp
      · exact G.off p hp
    · simp [G.lfn]
    · simp [G.lfa]
    · simp [G.lfr]
    · simp [G.lto, Nat.add_assoc]
    · simp [G.lta, Nat.add_assoc]
    · simp [G.ltd, Nat.add_assoc]
    · simp [G.lsrt, Nat.add_assoc]
    · exact G.sts.snoc ⟨_, rfl⟩
    · intro x hx
      rcases List.mem_append.mp hx with hx | hx
      · exact (hK x hx).mono fun p hp => List.mem_append_right _ hp
      · rw [List.mem_singleton.mp hx]
        exact KeyIn.mk List.mem_cons_self (List.mem_cons_of_mem _ (List.mem_cons_of_mem _ List.mem_cons_self))
    · simp [hxl, Nat.add_assoc]
    · intro x hx he
      rcases List.mem_append.mp hx with hx | hx
      · have := hap x hx he
        omega
      · rw [List.mem_singleton.mp hx]
        show (i : Int) < ((i + 1 : Nat) : Int)
        omega
  · intro p hp q hq
    have := hlt q hq
    rcases List.mem_cons.mp hp with rfl | hp
    · exact Nat.lt_trans this (Nat.lt_trans h2 h1)
    rcases List.mem_cons.mp hp with rfl | hp
    · exact Nat.lt_trans this h2
    rcases List.mem_cons.mp hp with rfl | hp
    · exact this
    · exact nomatch hp
set_option maxHeartbeats 8000000 in
theorem fresh_spec {w : World} {mean : ExcName → Option Value} {mg mb : Str → Option Value} {news : Led} {b : BankS} {srt : List Int} {i : Nat} {kl rest : Led} {so : Int} {tx tso : Tok} (G : BankG w b srt i kl) (hkl : ∀ p ∈ kl, p ∈ rest) (hoff : ∀ p ∈ rest, p.1 ∉ b.addrs) (hi : i ≤ 100) (h0 : 0 ≤ so) (h1 : so ≤ 2) : SpecU w mean mg mb 212 10 (bankLed w b ++ rest) [.ref b.B, .str (Str.ofString "x") tx, .int so tso] (fun nx r => ∃ b' tl t, nx = bankLed w b' ++ (tl ++ rest) ∧ b'.addrs = b.addrs ∧ b'.B = b.B ∧ BankG w b' (srt ++ [so]) (i + 1) (tl ++ kl) ∧ r = .int (3 + (i : Int)) t ∧ (∀ p ∈ tl, ∀ q ∈ bankLed w b ++ rest, q.1 < p.1)) := by
  unfold SpecU
  k_fill
  intro dp un gd cn cs a ccd cl outer A₀ base h₀ L m s Q E B F X N T hk hd hu hret
  obtain ⟨B, d, n, sn, sw, fn, fa, fr, to, ta, ts, td, nu, t0, t1, t2, t3, t4, t5, t6, t7, t8, t9, t10, t11, t12, v5, v11, v12, kfn, kfa, kfr, kto, kta, kts, ktd, vfn, vfa, vfr, vto, vta, vts, vtd, o⟩ := b
  have hnd := G.ord
  dsimp only at hnd
  have q1 : ∀ p ∈ rest, p.1 ≠ fn := off_ne hoff (by simp [BankS.addrs])
  have q2 : ∀ p ∈ rest, p.1 ≠ fa := off_ne hoff (by simp [BankS.addrs])
  have q3 : ∀ p ∈ rest, p.1 ≠ fr := off_ne hoff (by simp [BankS.addrs])
  have e1 := G.lfn
  have e2 := G.lfa
  have e3 := G.lfr
  have e4 := G.lto
  have e5 := G.lta
  have e6 := G.sts.length
  rw [G.lsrt] at e6
  have e7 := G.ltd
  have lo := G.lo
  obtain ⟨xs, hD, hK0, hxl, hap⟩ := G.dict
  dsimp only at e1 e2 e3 e4 e5 e6 e7 lo hD
  dsimp only [bankLed, List.cons_append, List.nil_append] at N
  refine apart_fresh hnd fun _ _ _ _ _ _ _ _ _ _ _ _ _ _ _ _ _ _ _ _ _ _ _ _ _ _ _ _ _ _ _ _ => ?_
  refine wpAny_call ?_
  (k_dflt ktr_enter; (rename Fr _ _ _ _ => F8); refine fold_fr F8 ?_; clear F8; intro u8 F8)
  (repeat' (first | (k_unfold; (try dsimp only)) | (k_end; wrow_close) | ((with_reducible show wpAny _ _ (call (Value.ref _) _) _ _ _); first | ((with_reducible show wpAny _ _ (call (Value.ref 289) _) _ _ _); refine nz_stop ?_) | (k_dflt (refine wpAny_call ?_; refine' code_def ?k1 ?k2 ?k3 ?k4 ?k5 ?kA ?kF ?kK ?k6 ?k7 ?k8 ?k9 ?kB ?_ ?c2 ?c3 ?c4 ?c5; (case kA => exact rfl); (case kF => exact rfl); (case kK => first | exact rfl | assumption); (case k1 => k_asm); (case k2 => k_asm); (case k3 => k_asm); (case k4 => k_asm); (case k5 => k_asm); (case k6 => k_is); (case k7 => k_is); (case k8 => ktr_room); (case k9 => exact BindsTo.of_eq rfl); (case c5 => decide); (case kB => exact locs rfl); (case c2 => exact rfl); (case c3 => exact rfl); (case c4 => exact rfl); k_whole; intro g' L' h' FG' F' N' B' X' T'; (try dsimp only); (try k_fold))) | ((with_reducible show wpAny _ _ (call (Value.ref 624) _) _ _ _); walk_at "nz:rt"; (· k_dflt (apply sum_spec <;> walk_at "nz:p")); walk_at "nz:rt2")) | walk1 | (dsimp only; walk1) | (leave1; (try dsimp only)) | fail "no step"))
  unfold NzStop
  (rename Fr _ _ _ _ => F9); (rename News _ _ _ _ => N9)
  (rename _ ∧ _ ∧ _ ∧ _ ∧ _ ∧ _ ∧ _ ∧ _ ∧ _ ∧ _ ∧ AllLt _ rest => hA)
  have hlt : ∀ q ∈ bankLed w ⟨B, d, n, sn, sw, fn, fa, fr, to, ta, ts, td, nu, t0, t1, t2, t3, t4, t5, t6, t7, t8, t9, t10, t11, t12, v5, v11, v12, kfn, kfa, kfr, kto, kta, kts, ktd, vfn, vfa, vfr, vto, vta, vts, vtd, o⟩ ++ rest, q.1 < _ := ktn_ltOf hA
  have N8 := fresh_pre (b := ⟨B, d, n, sn, sw, fn, fa, fr, to, ta, ts, td, nu, t0, t1, t2, t3, t4, t5, t6, t7, t8, t9, t10, t11, t12, v5, v11, v12, kfn + 1, kfa + 1, kfr + 1, kto, kta, kts, ktd, _, _, _, vto, vta, vts, vtd, o⟩) N9
  clear N N9
  refine' specU_use (make_spec (news := []) (b := ⟨B, d, n, sn, sw, fn, fa, fr, to, ta, ts, td, nu, t0, t1, t2, t3, t4, t5, t6, t7, t8, t9, t10, t11, t12, v5, v11, v12, kfn + 1, kfa + 1, kfr + 1, kto, kta, kts, ktd, _, _, _, vto, vta, vts, vtd, o⟩) (es := bankEs w ⟨B, d, n, sn, sw, fn, fa, fr, to, ta, ts, td, nu, t0, t1, t2, t3, t4, t5, t6, t7, t8, t9, t10, t11, t12, v5, v11, v12, kfn + 1, kfa + 1, kfr + 1, kto, kta, kts, ktd, _, _, _, vto, vta, vts, vtd, o⟩) hD (hK0.mono hkl) (sub_tail (sub_tail (sub_tail (sub_tail (sub_tail sub_refl))))) ?kae (fresh_app hap ?kj) ?kxl ⟨hnd.1, ?ko, hnd.2.2.2.2.2⟩ ?q4 ?q5 ?q6 ?q7 ?q8 ?e4 ?e5 ?e6 ?e7 lo) ?kB F9 ?kX N8 ?kT rfl ?kd ?ku ?_
  case kB => k_asm
  case kX => k_asm
  case kT => k_asm
  case kd => ktr_room
  case ku => ktr_units
  case kae => k_mem
  case kj => simp only [List.length_append, List.length_cons, List.length_nil]; omega
  case kxl => omega
  case ko => exact Nat.lt_trans hnd.2.1 (Nat.lt_trans hnd.2.2.1 (Nat.lt_trans hnd.2.2.2.1 hnd.2.2.2.2.1))
  case q4 => dsimp only; exact fresh_offs hnd.2.2.1 hnd.2.2.2.1 (by first | with_reducible assumption | exact lt_lo (by with_reducible assumption) (by k_mem) | omega) (by first | with_reducible assumption | exact lt_lo (by with_reducible assumption) (by k_mem) | omega) (by first | with_reducible assumption | exact lt_lo (by with_reducible assumption) (by k_mem) | omega) (off_ne hoff (by simp [BankS.addrs]))
  case q5 => dsimp only; exact fresh_offs hnd.2.2.1 hnd.2.2.2.1 (by first | with_reducible assumption | exact lt_lo (by with_reducible assumption) (by k_mem) | omega) (by first | with_reducible assumption | exact lt_lo (by with_reducible assumption) (by k_mem) | omega) (by first | with_reducible assumption | exact lt_lo (by with_reducible assumption) (by k_mem) | omega) (off_ne hoff (by simp [BankS.addrs]))
  case q6 => dsimp only; exact fresh_offs hnd.2.2.1 hnd.2.2.2.1 (by first | with_reducible assumption | exact lt_lo (by with_reducible assumption) (by k_mem) | omega) (by first | with_reducible assumption | exact lt_lo (by with_reducible assumption) (by k_mem) | omega) (by first | with_reducible assumption | exact lt_lo (by with_reducible assumption) (by k_mem) | omega) (off_ne hoff (by simp [BankS.addrs]))
  case q7 => dsimp only; exact fresh_offs hnd.2.2.1 hnd.2.2.2.1 (by first | with_reducible assumption | exact lt_lo (by with_reducible assumption) (by k_mem) | omega) (by first | with_reducible assumption | exact lt_lo (by with_reducible assumption) (by k_mem) | omega) (by first | with_reducible assumption | exact lt_lo (by with_reducible assumption) (by k_mem) | omega) (off_ne hoff (by simp [BankS.addrs]))
  case q8 => dsimp only; exact fresh_offs hnd.2.2.1 hnd.2.2.2.1 (by first | with_reducible assumption | exact lt_lo (by with_reducible assumption) (by k_mem) | omega) (by first | with_reducible assumption | exact lt_lo (by with_reducible assumption) (by k_mem) | omega) (by first | with_reducible assumption | exact lt_lo (by with_reducible assumption) (by k_mem) | omega) (off_ne hoff (by simp [BankS.addrs]))
  case e4 => dsimp only; omega
  case e5 => dsimp only; omega
  case e6 => dsimp only; omega
  case e7 => dsimp only; omega
  rintro _ _ h4 tk4 F4 N5 ⟨D, o', t, t', rfl, hD', rfl, hgt⟩
  have N6 := fresh_post (b := ⟨B, d, n, sn, sw, fn, fa, fr, to, ta, ts, td, nu, t0, t1, t2, t3, t4, t5, t6, t7, t8, t9, t10, t11, t12, v5, v11, v12, kfn + 1, kfa + 1, kfr + 1, kto + 1, kta + 1, kts + 1, ktd + 1, _, _, _, _, _, _, _, _⟩) N5
  clear N8 N5
  (repeat' (first | (k_unfold; (try dsimp only)) | (k_end; wrow_close) | ((with_reducible show wpAny _ _ (call (Value.ref _) _) _ _ _); first | ((with_reducible show wpAny _ _ (call (Value.ref 289) _) _ _ _); refine nz_stop ?_) | (k_dflt (refine wpAny_call ?_; refine' code_def ?k1 ?k2 ?k3 ?k4 ?k5 ?kA ?kF ?kK ?k6 ?k7 ?k8 ?k9 ?kB ?_ ?c2 ?c3 ?c4 ?c5; (case kA => exact rfl); (case kF => exact rfl); (case kK => first | exact rfl | assumption); (case k1 => k_asm); (case k2 => k_asm); (case k3 => k_asm); (case k4 => k_asm); (case k5 => k_asm); (case k6 => k_is); (case k7 => k_is); (case k8 => ktr_room); (case k9 => exact BindsTo.of_eq rfl); (case c5 => decide); (case kB => exact locs rfl); (case c2 => exact rfl); (case c3 => exact rfl); (case c4 => exact rfl); k_whole; intro g' L' h' FG' F' N' B' X' T'; (try dsimp only); (try k_fold))) | ((with_reducible show wpAny _ _ (call (Value.ref 624) _) _ _ _); walk_at "nz:rt"; (· k_dflt (apply sum_spec <;> walk_at "nz:p")); walk_at "nz:rt2")) | walk1 | (dsimp only; walk1) | (leave1; (try dsimp only)) | fail "no step"))
  (rename Fr _ _ _ _ => F3); (rename News _ _ _ _ => N3)
  refine hret _ _ _ _ F3 N3 (fresh_fin G hlt ?_ ?_ hK0 hxl hap ?_ hD' e4)
  · omega
  · exact hgt (_, tupO []) (by k_mem)
  · simp only [List.length_append, List.length_cons, List.length_nil]
    omega
end
section
noncomputable def lawTail : List Stmt := lawRec.body.drop 9
def realT (srt : List Int) (t : Int × Rat) : Bool := decide (srt[t.1.toNat]? = some 2)
/-- what the law's end asks of the row -/
structure LawFacts (srt : List Int) (row : Row) (φ : Rat) : Prop where
  sok : PyData.strOk row.rel = true
  ok : RowOk row
  wok : WholeOk srt row.whole
  fok : FacOk row
  pok : SumOk row
  tok : RowOk (row.tight srt)
  twok : WholeOk srt (row.tight srt).whole
  trel : PyData.strOk (row.tight srt).rel = true
  tid : ∀ t ∈ (row.tight srt).ts, 0 ≤ t.1 ∧ t.1 < 1000 ∧ t.1.toNat < srt.length
  tt : (row.tight srt).tight srt = row.tight srt
  id : ∀ t ∈ row.ts, 0 ≤ t.1 ∧ t.1 < 1000 ∧ t.1.toNat < srt.length
  sc : row.ts ≠ [] → ScOk row φ ∧ RowOk (row.scaled φ) ∧ WholeOk srt (row.scaled φ).whole ∧ (row.scaled φ).tight srt = row.tight srt
  nil : row.ts = [] → row.hopeless srt = (!holds row.rel (rsum row.ts []) row.b) ∧ (row.tight srt).rel = row.rel
  wh : row.ts ≠ [] → ((row.tight srt).ts.all (wholeT srt) = true ↔ row.ts.filter (realT srt) = [])
  nwh : row.ts ≠ [] → (row.tight srt).ts.all (wholeT srt) = false → row.tight srt = row.whole ∧ row.hopeless srt = false
  eq : row.ts ≠ [] → (row.tight srt).ts.all (wholeT srt) = true → row.rel = Str.ofString "=" → ∃ fts fb, row.tight srt = ⟨fts, Str.ofString "=", fb⟩ ∧ EqFacts srt row fts fb
  ti : row.ts ≠ [] → (row.tight srt).ts.all (wholeT srt) = true → row.rel ≠ Str.ofString "=" → ∃ fts fb, row.tight srt = ⟨fts, Str.ofString "<=", fb⟩ ∧ TightFacts srt row fts fb
theorem nz_neRow {prog : Program} {w : World} {A : Around} {E : Value → Shared → Prop} {s : Shared} {h₀ : Heap} {L : Addr} {a b : Addr} {all all1 all2 : Led} {Q : Value → Shared → Prop} {r1 r2 : Row} (N : News h₀ L s.heap all) (ha : RowIn all1 (.ref a) r1) (hb : RowIn all2 (.ref b) r2) (h1 : ∀ p ∈ all1, p ∈ all) (h2 : ∀ p ∈ all2, p ∈ all)
    (he : r1 = r2) (hs : PyData.strOk r2.rel = true) (hu : A.units + 64 < cLine) (h : Q (.bool false) s) : wpAny (model prog w) A (compareOp .NotEq (.ref a) (.ref b)) Q E s := by
  subst he
  exact nz_ne N (ha.mono h1).dat (hb.mono h2).dat (rowD_ok _ hs 4) (rowD_ok _ hs 4) hu (r := true) ⟨fun _ => rfl, fun _ => rfl⟩ h
theorem nz_eqRow {prog : Program} {w : World} {A : Around} {E : Value → Shared → Prop} {s : Shared} {h₀ : Heap} {L : Addr} {a b : Addr} {all all1 all2 : Led} {Q : Value → Shared → Prop} {r1 r2 : Row} (N : News h₀ L s.heap all) (ha : RowIn all1 (.ref a) r1) (hb : RowIn all2 (.ref b) r2) (h1 : ∀ p ∈ all1, p ∈ all) (h2 : ∀ p ∈ all2, p ∈ all)
    (he : r1 = r2) (hs : PyData.strOk r2.rel = true) (hu : A.units + 64 < cLine) (h : Q (.bool true) s) : wpAny (model prog w) A (compareOp .Eq (.ref a) (.ref b)) Q E s := by
  subst he
  exact nz_eq N (ha.mono h1).dat (hb.mono h2).dat (rowD_ok _ hs 4) (rowD_ok _ hs 4) hu (r := true) ⟨fun _ => rfl, fun _ => rfl⟩ h
theorem whole_nil_iff {l : List (Int × Rat)} {b : Bool} (h : b = true ↔ l = []) : Dat.list ((l.map fun t => t.1).map Dat.int) = Dat.list [] ↔ b = true := by
  rw [h]
  constructor
  · intro e
    injection e with e
    simpa using e
  · rintro rfl
    rfl
theorem fac_m1 {w : World} {mean : ExcName → Option Value} {mg mb : Str → Option Value} {news : Led} {b : Addr} {t u : Tok} (h : (b, tupO [.int (-1) t, .int 1 u]) ∈ news) : FacIn w mean mg mb news (.ref b) (-1) := fac_led (φ := -1) h
set_option maxHeartbeats 8000000 in
theorem law_tail {w : World} {mean : ExcName → Option Value} {mg mb : Str → Option Value} {news : Led} {fa L : Addr} {ccd : Value} {base h₀ : Heap} {m : Str → Option Value} {s : Shared} {Q : Flow → Shared → Prop} {E : Value → Shared → Prop}
    {Bk R P Fc : Addr} {oC : Obj} {srt : List Int} {row : Row} {φ : Rat} {vs : List Value} {kk : Nat} {t1 t2 : Tok}
    (B : Below callerA base [] h₀) (F : Fr h₀ L s.heap m) (X : (pre.heap_1_39 w.params).In h₀) (N : News h₀ L s.heap news) (T : Top pre.view_1_40 (looseW pre.view_1_40 []) mean mg mb h₀)
    (m1 : m (Str.ofString "parts") = some (.ref P)) (m2 : m (Str.ofString "row") = some (.ref R)) (m3 : m (Str.ofString "factor") = some (.ref Fc)) (hc : (L + 1, oC) ∈ news) (dC : oC.data = .cell (some (.ref Bk)))
    (hB : BankIn w news (.ref Bk) srt) (hr : RowIn news (.ref R) row) (hP : (P, listOf vs.toArray kk) ∈ news) (hvs : All2 (TermIn news) vs row.ts) (hF : (Fc, tupO [.int φ.num t1, .int (φ.den : Int) t2]) ∈ news) (lf : LawFacts srt row φ)
    (hret : ∀ h' tk' m' nx, Fr h₀ L h' m' → News h₀ L h' nx → Q (.ret (.bool true)) { s with heap := h', toks := tk' }) :
    wpAny (model PySem.Challenge.rw_nz0148_01.row.prog w) (callerA.deeper (envOfC lawRec.name lawRec.scope L fa ccd)) (execs lawTail (envOfC lawRec.name lawRec.scope L fa ccd)) Q E s := by
  revert X
  k_fill
  intro X
  dsimp only [lawTail, lawRec, recGet, List.drop_succ_cons, List.drop_zero]
  have F0 := ksw_fr (ps := [(Str.ofString "parts", .ref P), (Str.ofString "row", .ref R), (Str.ofString "factor", .ref Fc)]) (m₀ := m) (m₁ := m) (stored := []) (List.forall_mem_cons.mpr ⟨m1, List.forall_mem_cons.mpr ⟨m2, List.forall_mem_cons.mpr ⟨m3, List.forall_mem_nil _⟩⟩⟩) (fun _ _ _ => rfl) F
  dsimp only [kstB] at F0
  clear F
  have hok := lf.ok
  have hwok := lf.wok
  have hfok := lf.fok
  have htok := lf.tok
  have htwok := lf.twok
  have htt := lf.tt
  have htrel := lf.trel
  have htid := lf.tid
  have hid := lf.id
  have hsok := lf.pok
  have hrow := hr
  refine hr.at fun _ _ _ _ _ _ hra hrt hts hrb => ?_
  (repeat' (first | (k_unfold; (try dsimp only)) | (k_end; wrow_close) | ((with_reducible show wpAny _ _ (compareOp .NotEq (.ref _) (.ref _)) _ _ _); k_dflt (refine nz_neRow (by k_asm) (by with_reducible assumption) (by with_reducible assumption) (by repeat' first | with_reducible exact sub_refl | with_reducible refine sub_tail ?_ | with_reducible refine sub_app ?_) (by repeat' first | with_reducible exact sub_refl | with_reducible refine sub_tail ?_ | with_reducible refine sub_app ?_) (by with_reducible assumption) (by with_reducible assumption) (by ktr_units) ?_)) | ((with_reducible show wpAny _ _ (compareOp .Eq (.ref _) (.ref _)) _ _ _); k_dflt (refine nz_eqRow (by k_asm) (by with_reducible assumption) (by with_reducible assumption) (by repeat' first | with_reducible exact sub_refl | with_reducible refine sub_tail ?_ | with_reducible refine sub_app ?_) (by repeat' first | with_reducible exact sub_refl | with_reducible refine sub_tail ?_ | with_reducible refine sub_app ?_) (by with_reducible assumption) (by with_reducible assumption) (by ktr_units) ?_)) | ((with_reducible show wpAny _ _ (call (Value.ref _) _) _ _ _); first | ((with_reducible show wpAny _ _ (call (Value.ref 563) _) _ _ _); refine nz_stop ?_) | (walk_at "nz:row"; (· k_dflt (exact scaled_spec' (by walk_at "nz:row1") (by exact fac_m1 (by k_mem)) (by exact RowOk.scm (by assumption)))); walk_at "nz:row2") | ((with_reducible show wpAny _ _ (call (Value.ref 651) _) _ _ _); walk_at "nz:true"; (· k_dflt (apply iseq_spec <;> walk_at "nz:p")); walk_at "nz:true2") | ((with_reducible show wpAny _ _ (call (Value.ref 646) _) _ _ _); walk_at "nz:true"; (· k_dflt (apply istight_spec <;> walk_at "nz:p")); walk_at "nz:true2") | ((with_reducible show wpAny _ _ (call (Value.ref 641) _) _ _ _); walk_at "nz:true"; (· k_dflt (apply factor_spec <;> walk_at "nz:p")); walk_at "nz:true2") | ((with_reducible show wpAny _ _ (call (Value.ref 631) _) _ _ _); walk_at "nz:val"; (· k_dflt (apply holds_spec <;> walk_at "nz:p")); walk_at "nz:bool2") | ((with_reducible show wpAny _ _ (call (Value.ref 624) _) _ _ _); walk_at "nz:rt"; (· k_dflt (apply sum_spec <;> walk_at "nz:p")); walk_at "nz:rt2") | ((with_reducible show wpAny _ _ (call (Value.ref 598) _) _ _ _); walk_at "nz:val"; (· k_dflt (apply hopeless_spec <;> walk_at "nz:p")); walk_at "nz:bool2") | ((with_reducible show wpAny _ _ (call (Value.ref 584) _) _ _ _); walk_at "nz:row"; (· k_dflt (apply tight_spec <;> walk_at "nz:p")); walk_at "nz:row2") | ((with_reducible show wpAny _ _ (call (Value.ref 591) _) _ _ _); walk_at "nz:val"; (· k_dflt (exact truth_spec (by walk_at "nz:row1") (by first | assumption | exact RowOk.len (by assumption)))); walk_at "nz:or2") | ((with_reducible show wpAny _ _ (call (Value.ref 577) _) _ _ _); walk_at "nz:val"; (· k_dflt (apply hw_spec <;> walk_at "nz:p")); walk_at "nz:bool2") | ((with_reducible show wpAny _ _ (call (Value.ref 261) _) _ _ _); walk_at "nz:val"; (· k_dflt (apply sort_spec <;> walk_at "nz:p")); walk_at "nz:intx2") | ((with_reducible show wpAny _ _ (call (Value.ref 570) _) _ _ _); walk_at "nz:row"; (· k_dflt (apply wholerow_spec <;> walk_at "nz:p")); walk_at "nz:row2") | ((with_reducible show wpAny _ _ (call (Value.ref 556) _) _ _ _); walk_at "nz:row"; (· k_dflt (exact scaled_spec' (by walk_at "nz:row1") (by first | assumption | exact fac_m | exact fac_led (by k_mem)) (by first | assumption | exact RowOk.scm (by assumption)))); walk_at "nz:row2") | ((with_reducible show wpAny _ _ (call (Value.ref 556) _) _ _ _); walk_at "nz:row"; (· k_dflt (exact scnorm_spec (by walk_at "nz:row1") (by first | with_reducible assumption | exact fac_one' (by assumption) | exact fac_led' (by assumption) (by k_mem)) (by assumption))); walk_at "nz:row2") | ((with_reducible show wpAny _ _ (call (Value.ref 563) _) _ _ _); walk_at "nz:wf"; (· k_dflt (exact wf_spec (by walk_at "nz:row1") (by exact RowOk.den (by assumption)) (by exact RowOk.num (by assumption)) (by exact RowOk.S (by assumption)))); walk_at "nz:wf2")) | walk1 | (dsimp only; walk1) | (leave1; (try dsimp only)) | fail "no step"))
  (rename Fr _ _ _ _ => F7); (rename News _ _ _ _ => N7)
  unfold NzStop
  by_cases hz : row.ts = []
  · refine nz_neNil N7 hrt hts (by repeat' first | with_reducible exact sub_refl | with_reducible refine sub_tail ?_ | with_reducible refine sub_app ?_) (by k_mem) (by ktr_units) (nil_t hz) ?_
    obtain ⟨hn1, hn2⟩ := lf.nil hz
    have hl0 : row.ts.length = ([] : List Int).length := by rw [hz]; rfl
    have hden := hok.den
    have hnum := hok.num
    have hprod := hsok.prod
    have hbn := hok.bnum
    have hbd := hok.bden
    (repeat' (first | (k_unfold; (try dsimp only)) | (k_end; wrow_close) | ((with_reducible show wpAny _ _ (compareOp .NotEq (.ref _) (.ref _)) _ _ _); k_dflt (refine nz_neRow (by k_asm) (by with_reducible assumption) (by with_reducible assumption) (by repeat' first | with_reducible exact sub_refl | with_reducible refine sub_tail ?_ | with_reducible refine sub_app ?_) (by repeat' first | with_reducible exact sub_refl | with_reducible refine sub_tail ?_ | with_reducible refine sub_app ?_) (by with_reducible assumption) (by with_reducible assumption) (by ktr_units) ?_)) | ((with_reducible show wpAny _ _ (compareOp .Eq (.ref _) (.ref _)) _ _ _); k_dflt (refine nz_eqRow (by k_asm) (by with_reducible assumption) (by with_reducible assumption) (by repeat' first | with_reducible exact sub_refl | with_reducible refine sub_tail ?_ | with_reducible refine sub_app ?_) (by repeat' first | with_reducible exact sub_refl | with_reducible refine sub_tail ?_ | with_reducible refine sub_app ?_) (by with_reducible assumption) (by with_reducible assumption) (by ktr_units) ?_)) | ((with_reducible show wpAny _ _ (call (Value.ref _) _) _ _ _); first | ((with_reducible show wpAny _ _ (call (Value.ref 563) _) _ _ _); refine nz_stop ?_) | (walk_at "nz:row"; (· k_dflt (exact scaled_spec' (by walk_at "nz:row1") (by exact fac_m1 (by k_mem)) (by exact RowOk.scm (by assumption)))); walk_at "nz:row2") | ((with_reducible show wpAny _ _ (call (Value.ref 651) _) _ _ _); walk_at "nz:true"; (· k_dflt (apply iseq_spec <;> walk_at "nz:p")); walk_at "nz:true2") | ((with_reducible show wpAny _ _ (call (Value.ref 646) _) _ _ _); walk_at "nz:true"; (· k_dflt (apply istight_spec <;> walk_at "nz:p")); walk_at "nz:true2") | ((with_reducible show wpAny _ _ (call (Value.ref 641) _) _ _ _); walk_at "nz:true"; (· k_dflt (apply factor_spec <;> walk_at "nz:p")); walk_at "nz:true2") | ((with_reducible show wpAny _ _ (call (Value.ref 631) _) _ _ _); walk_at "nz:val"; (· k_dflt (apply holds_spec <;> walk_at "nz:p")); walk_at "nz:bool2") | ((with_reducible show wpAny _ _ (call (Value.ref 624) _) _ _ _); walk_at "nz:rt"; (· k_dflt (apply sum_spec <;> walk_at "nz:p")); walk_at "nz:rt2") | ((with_reducible show wpAny _ _ (call (Value.ref 598) _) _ _ _); walk_at "nz:val"; (· k_dflt (apply hopeless_spec <;> walk_at "nz:p")); walk_at "nz:bool2") | ((with_reducible show wpAny _ _ (call (Value.ref 584) _) _ _ _); walk_at "nz:row"; (· k_dflt (apply tight_spec <;> walk_at "nz:p")); walk_at "nz:row2") | ((with_reducible show wpAny _ _ (call (Value.ref 591) _) _ _ _); walk_at "nz:val"; (· k_dflt (exact truth_spec (by walk_at "nz:row1") (by first | assumption | exact RowOk.len (by assumption)))); walk_at "nz:or2") | ((with_reducible show wpAny _ _ (call (Value.ref 577) _) _ _ _); walk_at "nz:val"; (· k_dflt (apply hw_spec <;> walk_at "nz:p")); walk_at "nz:bool2") | ((with_reducible show wpAny _ _ (call (Value.ref 261) _) _ _ _); walk_at "nz:val"; (· k_dflt (apply sort_spec <;> walk_at "nz:p")); walk_at "nz:intx2") | ((with_reducible show wpAny _ _ (call (Value.ref 570) _) _ _ _); walk_at "nz:row"; (· k_dflt (apply wholerow_spec <;> walk_at "nz:p")); walk_at "nz:row2") | ((with_reducible show wpAny _ _ (call (Value.ref 556) _) _ _ _); walk_at "nz:row"; (· k_dflt (exact scaled_spec' (by walk_at "nz:row1") (by first | assumption | exact fac_m | exact fac_led (by k_mem)) (by first | assumption | exact RowOk.scm (by assumption)))); walk_at "nz:row2") | ((with_reducible show wpAny _ _ (call (Value.ref 556) _) _ _ _); walk_at "nz:row"; (· k_dflt (exact scnorm_spec (by walk_at "nz:row1") (by first | with_reducible assumption | exact fac_one' (by assumption) | exact fac_led' (by assumption) (by k_mem)) (by assumption))); walk_at "nz:row2") | ((with_reducible show wpAny _ _ (call (Value.ref 563) _) _ _ _); walk_at "nz:wf"; (· k_dflt (exact wf_spec (by walk_at "nz:row1") (by exact RowOk.den (by assumption)) (by exact RowOk.num (by assumption)) (by exact RowOk.S (by assumption)))); walk_at "nz:wf2")) | walk1 | (dsimp only; walk1) | (leave1; (try dsimp only)) | fail "no step"))
    · rw [hn2, beq_self_eq_true]
      exact hret _ _ _ _ (by k_asm) (by k_asm)
    · (rename (Row.hopeless srt row != _) = false => hx)
      rw [hn1] at hx
      exact absurd hx (by cases holds row.rel (rsum row.ts []) row.b <;> decide)
  · obtain ⟨hsc, hrs, hws, hst⟩ := lf.sc hz
    refine nz_neNil N7 hrt hts (by repeat' first | with_reducible exact sub_refl | with_reducible refine sub_tail ?_ | with_reducible refine sub_app ?_) (by k_mem) (by ktr_units) (nil_f hz) ?_
    (repeat' (first | (k_unfold; (try dsimp only)) | (k_end; wrow_close) | ((with_reducible show wpAny _ _ (compareOp .NotEq (.ref _) (.ref _)) _ _ _); k_dflt (refine nz_neRow (by k_asm) (by with_reducible assumption) (by with_reducible assumption) (by repeat' first | with_reducible exact sub_refl | with_reducible refine sub_tail ?_ | with_reducible refine sub_app ?_) (by repeat' first | with_reducible exact sub_refl | with_reducible refine sub_tail ?_ | with_reducible refine sub_app ?_) (by with_reducible assumption) (by with_reducible assumption) (by ktr_units) ?_)) | ((with_reducible show wpAny _ _ (compareOp .Eq (.ref _) (.ref _)) _ _ _); k_dflt (refine nz_eqRow (by k_asm) (by with_reducible assumption) (by with_reducible assumption) (by repeat' first | with_reducible exact sub_refl | with_reducible refine sub_tail ?_ | with_reducible refine sub_app ?_) (by repeat' first | with_reducible exact sub_refl | with_reducible refine sub_tail ?_ | with_reducible refine sub_app ?_) (by with_reducible assumption) (by with_reducible assumption) (by ktr_units) ?_)) | ((with_reducible show wpAny _ _ (call (Value.ref _) _) _ _ _); first | ((with_reducible show wpAny _ _ (call (Value.ref 563) _) _ _ _); refine nz_stop ?_) | (walk_at "nz:row"; (· k_dflt (exact scaled_spec' (by walk_at "nz:row1") (by exact fac_m1 (by k_mem)) (by exact RowOk.scm (by assumption)))); walk_at "nz:row2") | ((with_reducible show wpAny _ _ (call (Value.ref 651) _) _ _ _); walk_at "nz:true"; (· k_dflt (apply iseq_spec <;> walk_at "nz:p")); walk_at "nz:true2") | ((with_reducible show wpAny _ _ (call (Value.ref 646) _) _ _ _); walk_at "nz:true"; (· k_dflt (apply istight_spec <;> walk_at "nz:p")); walk_at "nz:true2") | ((with_reducible show wpAny _ _ (call (Value.ref 641) _) _ _ _); walk_at "nz:true"; (· k_dflt (apply factor_spec <;> walk_at "nz:p")); walk_at "nz:true2") | ((with_reducible show wpAny _ _ (call (Value.ref 631) _) _ _ _); walk_at "nz:val"; (· k_dflt (apply holds_spec <;> walk_at "nz:p")); walk_at "nz:bool2") | ((with_reducible show wpAny _ _ (call (Value.ref 624) _) _ _ _); walk_at "nz:rt"; (· k_dflt (apply sum_spec <;> walk_at "nz:p")); walk_at "nz:rt2") | ((with_reducible show wpAny _ _ (call (Value.ref 598) _) _ _ _); walk_at "nz:val"; (· k_dflt (apply hopeless_spec <;> walk_at "nz:p")); walk_at "nz:bool2") | ((with_reducible show wpAny _ _ (call (Value.ref 584) _) _ _ _); walk_at "nz:row"; (· k_dflt (apply tight_spec <;> walk_at "nz:p")); walk_at "nz:row2") | ((with_reducible show wpAny _ _ (call (Value.ref 591) _) _ _ _); walk_at "nz:val"; (· k_dflt (exact truth_spec (by walk_at "nz:row1") (by first | assumption | exact RowOk.len (by assumption)))); walk_at "nz:or2") | ((with_reducible show wpAny _ _ (call (Value.ref 577) _) _ _ _); walk_at "nz:val"; (· k_dflt (apply hw_spec <;> walk_at "nz:p")); walk_at "nz:bool2") | ((with_reducible show wpAny _ _ (call (Value.ref 261) _) _ _ _); walk_at "nz:val"; (· k_dflt (apply sort_spec <;> walk_at "nz:p")); walk_at "nz:intx2") | ((with_reducible show wpAny _ _ (call (Value.ref 570) _) _ _ _); walk_at "nz:row"; (· k_dflt (apply wholerow_spec <;> walk_at "nz:p")); walk_at "nz:row2") | ((with_reducible show wpAny _ _ (call (Value.ref 556) _) _ _ _); walk_at "nz:row"; (· k_dflt (exact scaled_spec' (by walk_at "nz:row1") (by first | assumption | exact fac_m | exact fac_led (by k_mem)) (by first | assumption | exact RowOk.scm (by assumption)))); walk_at "nz:row2") | ((with_reducible show wpAny _ _ (call (Value.ref 556) _) _ _ _); walk_at "nz:row"; (· k_dflt (exact scnorm_spec (by walk_at "nz:row1") (by first | with_reducible assumption | exact fac_one' (by assumption) | exact fac_led' (by assumption) (by k_mem)) (by assumption))); walk_at "nz:row2") | ((with_reducible show wpAny _ _ (call (Value.ref 563) _) _ _ _); walk_at "nz:wf"; (· k_dflt (exact wf_spec (by walk_at "nz:row1") (by exact RowOk.den (by assumption)) (by exact RowOk.num (by assumption)) (by exact RowOk.S (by assumption)))); walk_at "nz:wf2")) | walk1 | (dsimp only; walk1) | (leave1; (try dsimp only)) | fail "no step"))
    (rename Fr _ _ _ _ => F1); (rename News _ _ _ _ => N1)
    refine comp_list F1 N1 (by k_mem) (by rw [hvs.length]; exact Nat.le_trans hok.len (by decide)) (base := news) (binds_pair rfl rfl rfl rfl (by decide) (fun i v h hv N => pairs_terms hvs hv N)) (fun i ys nx => All2 IntV ys (((row.ts.take i).filter (realT srt)).map (fun t => t.1))) .nil (by repeat' first | with_reducible exact sub_refl | with_reducible refine sub_tail ?_ | with_reducible refine sub_app ?_) ?_ ?_
    · intro i v ys nx own wr C oC' D m₂ h tk E' hi hBd hC hJ hyl F4 N4 off hwo
      refine bd_terms hBd fun k t r ρ u u' hma hmb hx hm => ?_
      obtain ⟨hs, hK⟩ := hJ
      have hnn : ∀ p ∈ news, p ∈ nx := fun p hp => hs p ((show ∀ q ∈ news, q ∈ _ from (by repeat' first | with_reducible exact sub_refl | with_reducible refine sub_tail ?_ | with_reducible refine sub_app ?_)) p hp)
      clear F1 N1
      have hcell := hnn _ hc
      have hB' := hB.mono hnn
      cases hB with | mk hB1 hB2 hB3 hB4 =>
      have hB1' := hnn _ hB1
      have hB2' := hnn _ hB2
      obtain ⟨hi1, hi2, hi3⟩ := hid _ (mem_at hx)
      obtain ⟨sx, hsx⟩ : ∃ x, srt[k.toNat]? = some x := ⟨_, List.getElem?_eq_getElem hi3⟩
      dsimp only at hi1 hi2
      (repeat' (first | (k_unfold; (try dsimp only)) | (k_end; wrow_close) | ((with_reducible show wpAny _ _ (compareOp .NotEq (.ref _) (.ref _)) _ _ _); k_dflt (refine nz_neRow (by k_asm) (by with_reducible assumption) (by with_reducible assumption) (by repeat' first | with_reducible exact sub_refl | with_reducible refine sub_tail ?_ | with_reducible refine sub_app ?_) (by repeat' first | with_reducible exact sub_refl | with_reducible refine sub_tail ?_ | with_reducible refine sub_app ?_) (by with_reducible assumption) (by with_reducible assumption) (by ktr_units) ?_)) | ((with_reducible show wpAny _ _ (compareOp .Eq (.ref _) (.ref _)) _ _ _); k_dflt (refine nz_eqRow (by k_asm) (by with_reducible assumption) (by with_reducible assumption) (by repeat' first | with_reducible exact sub_refl | with_reducible refine sub_tail ?_ | with_reducible refine sub_app ?_) (by repeat' first | with_reducible exact sub_refl | with_reducible refine sub_tail ?_ | with_reducible refine sub_app ?_) (by with_reducible assumption) (by with_reducible assumption) (by ktr_units) ?_)) | ((with_reducible show wpAny _ _ (call (Value.ref _) _) _ _ _); first | ((with_reducible show wpAny _ _ (call (Value.ref 563) _) _ _ _); refine nz_stop ?_) | (walk_at "nz:row"; (· k_dflt (exact scaled_spec' (by walk_at "nz:row1") (by exact fac_m1 (by k_mem)) (by exact RowOk.scm (by assumption)))); walk_at "nz:row2") | ((with_reducible show wpAny _ _ (call (Value.ref 651) _) _ _ _); walk_at "nz:true"; (· k_dflt (apply iseq_spec <;> walk_at "nz:p")); walk_at "nz:true2") | ((with_reducible show wpAny _ _ (call (Value.ref 646) _) _ _ _); walk_at "nz:true"; (· k_dflt (apply istight_spec <;> walk_at "nz:p")); walk_at "nz:true2") | ((with_reducible show wpAny _ _ (call (Value.ref 641) _) _ _ _); walk_at "nz:true"; (· k_dflt (apply factor_spec <;> walk_at "nz:p")); walk_at "nz:true2") | ((with_reducible show wpAny _ _ (call (Value.ref 631) _) _ _ _); walk_at "nz:val"; (· k_dflt (apply holds_spec <;> walk_at "nz:p")); walk_at "nz:bool2") | ((with_reducible show wpAny _ _ (call (Value.ref 624) _) _ _ _); walk_at "nz:rt"; (· k_dflt (apply sum_spec <;> walk_at "nz:p")); walk_at "nz:rt2") | ((with_reducible show wpAny _ _ (call (Value.ref 598) _) _ _ _); walk_at "nz:val"; (· k_dflt (apply hopeless_spec <;> walk_at "nz:p")); walk_at "nz:bool2") | ((with_reducible show wpAny _ _ (call (Value.ref 584) _) _ _ _); walk_at "nz:row"; (· k_dflt (apply tight_spec <;> walk_at "nz:p")); walk_at "nz:row2") | ((with_reducible show wpAny _ _ (call (Value.ref 591) _) _ _ _); walk_at "nz:val"; (· k_dflt (exact truth_spec (by walk_at "nz:row1") (by first | assumption | exact RowOk.len (by assumption)))); walk_at "nz:or2") | ((with_reducible show wpAny _ _ (call (Value.ref 577) _) _ _ _); walk_at "nz:val"; (· k_dflt (apply hw_spec <;> walk_at "nz:p")); walk_at "nz:bool2") | ((with_reducible show wpAny _ _ (call (Value.ref 261) _) _ _ _); walk_at "nz:val"; (· k_dflt (apply sort_spec <;> walk_at "nz:p")); walk_at "nz:intx2") | ((with_reducible show wpAny _ _ (call (Value.ref 570) _) _ _ _); walk_at "nz:row"; (· k_dflt (apply wholerow_spec <;> walk_at "nz:p")); walk_at "nz:row2") | ((with_reducible show wpAny _ _ (call (Value.ref 556) _) _ _ _); walk_at "nz:row"; (· k_dflt (exact scaled_spec' (by walk_at "nz:row1") (by first | assumption | exact fac_m | exact fac_led (by k_mem)) (by first | assumption | exact RowOk.scm (by assumption)))); walk_at "nz:row2") | ((with_reducible show wpAny _ _ (call (Value.ref 556) _) _ _ _); walk_at "nz:row"; (· k_dflt (exact scnorm_spec (by walk_at "nz:row1") (by first | with_reducible assumption | exact fac_one' (by assumption) | exact fac_led' (by assumption) (by k_mem)) (by assumption))); walk_at "nz:row2") | ((with_reducible show wpAny _ _ (call (Value.ref 563) _) _ _ _); walk_at "nz:wf"; (· k_dflt (exact wf_spec (by walk_at "nz:row1") (by exact RowOk.den (by assumption)) (by exact RowOk.num (by assumption)) (by exact RowOk.S (by assumption)))); walk_at "nz:wf2")) | walk1 | (dsimp only; walk1) | (leave1; (try dsimp only)) | fail "no step"))
      · (rename _ = (2 : Int) => h2)
        (rename Fr _ _ _ _ => F9); (rename News _ _ _ _ => N9)
        refine nz_cend0 F9 N9 sub_refl off ⟨hs, ?_⟩
        rw [take_snoc hx, List.filter_append, List.filter_cons_of_pos (by simp [realT, hsx, h2]), List.filter_nil, List.map_append]
        exact hK.snoc ⟨_, rfl⟩
      · (rename _ ≠ (2 : Int) => h2)
        (rename Fr _ _ _ _ => F9); (rename News _ _ _ _ => N9)
        refine nz_cend0 F9 N9 sub_refl off ⟨hs, ?_⟩
        rw [take_snoc hx, List.filter_append, List.filter_cons_of_neg (by simp [realT, hsx, h2]), List.filter_nil, List.append_nil]
        exact hK
    · intro D1 h tk ys1 nx1 N2 hne1 hs1 hK1 F2
      clear F1 N1
      rw [hvs.length, List.take_length] at hK1
      have hnn : ∀ p ∈ news, p ∈ nx1 := fun p hp => hs1 p ((show ∀ q ∈ news, q ∈ _ from (by repeat' first | with_reducible exact sub_refl | with_reducible refine sub_tail ?_ | with_reducible refine sub_app ?_)) p hp)
      (rename RowIn _ _ (Row.tight srt row) => hfd)
      have hfd1 : RowIn nx1 _ (Row.tight srt row) := hfd.mono fun p hp => hs1 p ((show ∀ q ∈ _, q ∈ _ from (by repeat' first | with_reducible exact sub_refl | with_reducible refine sub_tail ?_ | with_reducible refine sub_app ?_)) p hp)
      have hrow1 := hrow.mono hnn
      have hB1 := hB.mono hnn
      have hc1 := hnn _ hc
      have hra1 := hnn _ hra
      have hrt1 := hnn _ hrt
      have hrb1 := hnn _ hrb
      clear hfd
      (repeat' (first | (k_unfold; (try dsimp only)) | (k_end; wrow_close) | ((with_reducible show wpAny _ _ (compareOp .NotEq (.ref _) (.ref _)) _ _ _); k_dflt (refine nz_neRow (by k_asm) (by with_reducible assumption) (by with_reducible assumption) (by repeat' first | with_reducible exact sub_refl | with_reducible refine sub_tail ?_ | with_reducible refine sub_app ?_) (by repeat' first | with_reducible exact sub_refl | with_reducible refine sub_tail ?_ | with_reducible refine sub_app ?_) (by with_reducible assumption) (by with_reducible assumption) (by ktr_units) ?_)) | ((with_reducible show wpAny _ _ (compareOp .Eq (.ref _) (.ref _)) _ _ _); k_dflt (refine nz_eqRow (by k_asm) (by with_reducible assumption) (by with_reducible assumption) (by repeat' first | with_reducible exact sub_refl | with_reducible refine sub_tail ?_ | with_reducible refine sub_app ?_) (by repeat' first | with_reducible exact sub_refl | with_reducible refine sub_tail ?_ | with_reducible refine sub_app ?_) (by with_reducible assumption) (by with_reducible assumption) (by ktr_units) ?_)) | ((with_reducible show wpAny _ _ (call (Value.ref _) _) _ _ _); first | ((with_reducible show wpAny _ _ (call (Value.ref 563) _) _ _ _); refine nz_stop ?_) | (walk_at "nz:row"; (· k_dflt (exact scaled_spec' (by walk_at "nz:row1") (by exact fac_m1 (by k_mem)) (by exact RowOk.scm (by assumption)))); walk_at "nz:row2") | ((with_reducible show wpAny _ _ (call (Value.ref 651) _) _ _ _); walk_at "nz:true"; (· k_dflt (apply iseq_spec <;> walk_at "nz:p")); walk_at "nz:true2") | ((with_reducible show wpAny _ _ (call (Value.ref 646) _) _ _ _); walk_at "nz:true"; (· k_dflt (apply istight_spec <;> walk_at "nz:p")); walk_at "nz:true2") | ((with_reducible show wpAny _ _ (call (Value.ref 641) _) _ _ _); walk_at "nz:true"; (· k_dflt (apply factor_spec <;> walk_at "nz:p")); walk_at "nz:true2") | ((with_reducible show wpAny _ _ (call (Value.ref 631) _) _ _ _); walk_at "nz:val"; (· k_dflt (apply holds_spec <;> walk_at "nz:p")); walk_at "nz:bool2") | ((with_reducible show wpAny _ _ (call (Value.ref 624) _) _ _ _); walk_at "nz:rt"; (· k_dflt (apply sum_spec <;> walk_at "nz:p")); walk_at "nz:rt2") | ((with_reducible show wpAny _ _ (call (Value.ref 598) _) _ _ _); walk_at "nz:val"; (· k_dflt (apply hopeless_spec <;> walk_at "nz:p")); walk_at "nz:bool2") | ((with_reducible show wpAny _ _ (call (Value.ref 584) _) _ _ _); walk_at "nz:row"; (· k_dflt (apply tight_spec <;> walk_at "nz:p")); walk_at "nz:row2") | ((with_reducible show wpAny _ _ (call (Value.ref 591) _) _ _ _); walk_at "nz:val"; (· k_dflt (exact truth_spec (by walk_at "nz:row1") (by first | assumption | exact RowOk.len (by assumption)))); walk_at "nz:or2") | ((with_reducible show wpAny _ _ (call (Value.ref 577) _) _ _ _); walk_at "nz:val"; (· k_dflt (apply hw_spec <;> walk_at "nz:p")); walk_at "nz:bool2") | ((with_reducible show wpAny _ _ (call (Value.ref 261) _) _ _ _); walk_at "nz:val"; (· k_dflt (apply sort_spec <;> walk_at "nz:p")); walk_at "nz:intx2") | ((with_reducible show wpAny _ _ (call (Value.ref 570) _) _ _ _); walk_at "nz:row"; (· k_dflt (apply wholerow_spec <;> walk_at "nz:p")); walk_at "nz:row2") | ((with_reducible show wpAny _ _ (call (Value.ref 556) _) _ _ _); walk_at "nz:row"; (· k_dflt (exact scaled_spec' (by walk_at "nz:row1") (by first | assumption | exact fac_m | exact fac_led (by k_mem)) (by first | assumption | exact RowOk.scm (by assumption)))); walk_at "nz:row2") | ((with_reducible show wpAny _ _ (call (Value.ref 556) _) _ _ _); walk_at "nz:row"; (· k_dflt (exact scnorm_spec (by walk_at "nz:row1") (by first | with_reducible assumption | exact fac_one' (by assumption) | exact fac_led' (by assumption) (by k_mem)) (by assumption))); walk_at "nz:row2") | ((with_reducible show wpAny _ _ (call (Value.ref 563) _) _ _ _); walk_at "nz:wf"; (· k_dflt (exact wf_spec (by walk_at "nz:row1") (by exact RowOk.den (by assumption)) (by exact RowOk.num (by assumption)) (by exact RowOk.S (by assumption)))); walk_at "nz:wf2")) | walk1 | (dsimp only; walk1) | (leave1; (try dsimp only)) | fail "no step"))
      (rename Fr _ _ _ _ => F3); (rename News _ _ _ _ => N3)
      unfold NzStop
      have hwh := lf.wh hz
      dsimp (zetaDelta := true) only
      cases hw : (Row.tight srt row).ts.all (wholeT srt)
      · obtain ⟨e1, e2⟩ := lf.nwh hz hw
        rw [hw] at F3 hwh
        refine nz_eq N3 (DatIn.list (by k_mem) (ints_dat hK1)) (DatIn.list (by k_mem) .nil) (ints_ok _ 7) rfl (by ktr_units) (r := false) (whole_nil_iff hwh) ?_
        (repeat' (first | (k_unfold; (try dsimp only)) | (k_end; wrow_close) | ((with_reducible show wpAny _ _ (compareOp .NotEq (.ref _) (.ref _)) _ _ _); k_dflt (refine nz_neRow (by k_asm) (by with_reducible assumption) (by with_reducible assumption) (by repeat' first | with_reducible exact sub_refl | with_reducible refine sub_tail ?_ | with_reducible refine sub_app ?_) (by repeat' first | with_reducible exact sub_refl | with_reducible refine sub_tail ?_ | with_reducible refine sub_app ?_) (by with_reducible assumption) (by with_reducible assumption) (by ktr_units) ?_)) | ((with_reducible show wpAny _ _ (compareOp .Eq (.ref _) (.ref _)) _ _ _); k_dflt (refine nz_eqRow (by k_asm) (by with_reducible assumption) (by with_reducible assumption) (by repeat' first | with_reducible exact sub_refl | with_reducible refine sub_tail ?_ | with_reducible refine sub_app ?_) (by repeat' first | with_reducible exact sub_refl | with_reducible refine sub_tail ?_ | with_reducible refine sub_app ?_) (by with_reducible assumption) (by with_reducible assumption) (by ktr_units) ?_)) | ((with_reducible show wpAny _ _ (call (Value.ref _) _) _ _ _); first | ((with_reducible show wpAny _ _ (call (Value.ref 563) _) _ _ _); refine nz_stop ?_) | (walk_at "nz:row"; (· k_dflt (exact scaled_spec' (by walk_at "nz:row1") (by exact fac_m1 (by k_mem)) (by exact RowOk.scm (by assumption)))); walk_at "nz:row2") | ((with_reducible show wpAny _ _ (call (Value.ref 651) _) _ _ _); walk_at "nz:true"; (· k_dflt (apply iseq_spec <;> walk_at "nz:p")); walk_at "nz:true2") | ((with_reducible show wpAny _ _ (call (Value.ref 646) _) _ _ _); walk_at "nz:true"; (· k_dflt (apply istight_spec <;> walk_at "nz:p")); walk_at "nz:true2") | ((with_reducible show wpAny _ _ (call (Value.ref 641) _) _ _ _); walk_at "nz:true"; (· k_dflt (apply factor_spec <;> walk_at "nz:p")); walk_at "nz:true2") | ((with_reducible show wpAny _ _ (call (Value.ref 631) _) _ _ _); walk_at "nz:val"; (· k_dflt (apply holds_spec <;> walk_at "nz:p")); walk_at "nz:bool2") | ((with_reducible show wpAny _ _ (call (Value.ref 624) _) _ _ _); walk_at "nz:rt"; (· k_dflt (apply sum_spec <;> walk_at "nz:p")); walk_at "nz:rt2") | ((with_reducible show wpAny _ _ (call (Value.ref 598) _) _ _ _); walk_at "nz:val"; (· k_dflt (apply hopeless_spec <;> walk_at "nz:p")); walk_at "nz:bool2") | ((with_reducible show wpAny _ _ (call (Value.ref 584) _) _ _ _); walk_at "nz:row"; (· k_dflt (apply tight_spec <;> walk_at "nz:p")); walk_at "nz:row2") | ((with_reducible show wpAny _ _ (call (Value.ref 591) _) _ _ _); walk_at "nz:val"; (· k_dflt (exact truth_spec (by walk_at "nz:row1") (by first | assumption | exact RowOk.len (by assumption)))); walk_at "nz:or2") | ((with_reducible show wpAny _ _ (call (Value.ref 577) _) _ _ _); walk_at "nz:val"; (· k_dflt (apply hw_spec <;> walk_at "nz:p")); walk_at "nz:bool2") | ((with_reducible show wpAny _ _ (call (Value.ref 261) _) _ _ _); walk_at "nz:val"; (· k_dflt (apply sort_spec <;> walk_at "nz:p")); walk_at "nz:intx2") | ((with_reducible show wpAny _ _ (call (Value.ref 570) _) _ _ _); walk_at "nz:row"; (· k_dflt (apply wholerow_spec <;> walk_at "nz:p")); walk_at "nz:row2") | ((with_reducible show wpAny _ _ (call (Value.ref 556) _) _ _ _); walk_at "nz:row"; (· k_dflt (exact scaled_spec' (by walk_at "nz:row1") (by first | assumption | exact fac_m | exact fac_led (by k_mem)) (by first | assumption | exact RowOk.scm (by assumption)))); walk_at "nz:row2") | ((with_reducible show wpAny _ _ (call (Value.ref 556) _) _ _ _); walk_at "nz:row"; (· k_dflt (exact scnorm_spec (by walk_at "nz:row1") (by first | with_reducible assumption | exact fac_one' (by assumption) | exact fac_led' (by assumption) (by k_mem)) (by assumption))); walk_at "nz:row2") | ((with_reducible show wpAny _ _ (call (Value.ref 563) _) _ _ _); walk_at "nz:wf"; (· k_dflt (exact wf_spec (by walk_at "nz:row1") (by exact RowOk.den (by assumption)) (by exact RowOk.num (by assumption)) (by exact RowOk.S (by assumption)))); walk_at "nz:wf2")) | walk1 | (dsimp only; walk1) | (leave1; (try dsimp only)) | fail "no step"))
        unfold NzStop
        (walk_at "nz:wf"; (· k_dflt (exact wf_spec (by walk_at "nz:row1") (by exact RowOk.den (by assumption)) (by exact RowOk.num (by assumption)) (by exact RowOk.S (by assumption)))); walk_at "nz:wf2")
        · (rename row.ts = [] => hz9)
          exact absurd hz9 hz
        have hnz : row.norm.ts ≠ [] := by rw [Row.norm]; exact scale_nil hz
        (repeat' (first | (k_unfold; (try dsimp only)) | (k_end; wrow_close) | ((with_reducible show wpAny _ _ (compareOp .NotEq (.ref _) (.ref _)) _ _ _); k_dflt (refine nz_neRow (by k_asm) (by with_reducible assumption) (by with_reducible assumption) (by repeat' first | with_reducible exact sub_refl | with_reducible refine sub_tail ?_ | with_reducible refine sub_app ?_) (by repeat' first | with_reducible exact sub_refl | with_reducible refine sub_tail ?_ | with_reducible refine sub_app ?_) (by with_reducible assumption) (by with_reducible assumption) (by ktr_units) ?_)) | ((with_reducible show wpAny _ _ (compareOp .Eq (.ref _) (.ref _)) _ _ _); k_dflt (refine nz_eqRow (by k_asm) (by with_reducible assumption) (by with_reducible assumption) (by repeat' first | with_reducible exact sub_refl | with_reducible refine sub_tail ?_ | with_reducible refine sub_app ?_) (by repeat' first | with_reducible exact sub_refl | with_reducible refine sub_tail ?_ | with_reducible refine sub_app ?_) (by with_reducible assumption) (by with_reducible assumption) (by ktr_units) ?_)) | ((with_reducible show wpAny _ _ (call (Value.ref _) _) _ _ _); first | ((with_reducible show wpAny _ _ (call (Value.ref 563) _) _ _ _); refine nz_stop ?_) | (walk_at "nz:row"; (· k_dflt (exact scaled_spec' (by walk_at "nz:row1") (by exact fac_m1 (by k_mem)) (by exact RowOk.scm (by assumption)))); walk_at "nz:row2") | ((with_reducible show wpAny _ _ (call (Value.ref 651) _) _ _ _); walk_at "nz:true"; (· k_dflt (apply iseq_spec <;> walk_at "nz:p")); walk_at "nz:true2") | ((with_reducible show wpAny _ _ (call (Value.ref 646) _) _ _ _); walk_at "nz:true"; (· k_dflt (apply istight_spec <;> walk_at "nz:p")); walk_at "nz:true2") | ((with_reducible show wpAny _ _ (call (Value.ref 641) _) _ _ _); walk_at "nz:true"; (· k_dflt (apply factor_spec <;> walk_at "nz:p")); walk_at "nz:true2") | ((with_reducible show wpAny _ _ (call (Value.ref 631) _) _ _ _); walk_at "nz:val"; (· k_dflt (apply holds_spec <;> walk_at "nz:p")); walk_at "nz:bool2") | ((with_reducible show wpAny _ _ (call (Value.ref 624) _) _ _ _); walk_at "nz:rt"; (· k_dflt (apply sum_spec <;> walk_at "nz:p")); walk_at "nz:rt2") | ((with_reducible show wpAny _ _ (call (Value.ref 598) _) _ _ _); walk_at "nz:val"; (· k_dflt (apply hopeless_spec <;> walk_at "nz:p")); walk_at "nz:bool2") | ((with_reducible show wpAny _ _ (call (Value.ref 584) _) _ _ _); walk_at "nz:row"; (· k_dflt (apply tight_spec <;> walk_at "nz:p")); walk_at "nz:row2") | ((with_reducible show wpAny _ _ (call (Value.ref 591) _) _ _ _); walk_at "nz:val"; (· k_dflt (exact truth_spec (by walk_at "nz:row1") (by first | assumption | exact RowOk.len (by assumption)))); walk_at "nz:or2") | ((with_reducible show wpAny _ _ (call (Value.ref 577) _) _ _ _); walk_at "nz:val"; (· k_dflt (apply hw_spec <;> walk_at "nz:p")); walk_at "nz:bool2") | ((with_reducible show wpAny _ _ (call (Value.ref 261) _) _ _ _); walk_at "nz:val"; (· k_dflt (apply sort_spec <;> walk_at "nz:p")); walk_at "nz:intx2") | ((with_reducible show wpAny _ _ (call (Value.ref 570) _) _ _ _); walk_at "nz:row"; (· k_dflt (apply wholerow_spec <;> walk_at "nz:p")); walk_at "nz:row2") | ((with_reducible show wpAny _ _ (call (Value.ref 556) _) _ _ _); walk_at "nz:row"; (· k_dflt (exact scaled_spec' (by walk_at "nz:row1") (by first | assumption | exact fac_m | exact fac_led (by k_mem)) (by first | assumption | exact RowOk.scm (by assumption)))); walk_at "nz:row2") | ((with_reducible show wpAny _ _ (call (Value.ref 556) _) _ _ _); walk_at "nz:row"; (· k_dflt (exact scnorm_spec (by walk_at "nz:row1") (by first | with_reducible assumption | exact fac_one' (by assumption) | exact fac_led' (by assumption) (by k_mem)) (by assumption))); walk_at "nz:row2") | ((with_reducible show wpAny _ _ (call (Value.ref 563) _) _ _ _); walk_at "nz:wf"; (· k_dflt (exact wf_spec (by walk_at "nz:row1") (by exact RowOk.den (by assumption)) (by exact RowOk.num (by assumption)) (by exact RowOk.S (by assumption)))); walk_at "nz:wf2")) | walk1 | (dsimp only; walk1) | (leave1; (try dsimp only)) | fail "no step"))
        · (rename All2 _ _ _ => hall)
          have hl9 := nz_len_ok hall hok
          generalize hts9 : Row.ts (Row.norm row) = ts9 at hall
          rcases hall with _ | ⟨hv, hall⟩
          · exact absurd hts9 hnz
          · rcases hv with ⟨hm1, hm2⟩
            rcases hm2 with ⟨hm2⟩
            (repeat' (first | (k_unfold; (try dsimp only)) | (k_end; wrow_close) | ((with_reducible show wpAny _ _ (compareOp .NotEq (.ref _) (.ref _)) _ _ _); k_dflt (refine nz_neRow (by k_asm) (by with_reducible assumption) (by with_reducible assumption) (by repeat' first | with_reducible exact sub_refl | with_reducible refine sub_tail ?_ | with_reducible refine sub_app ?_) (by repeat' first | with_reducible exact sub_refl | with_reducible refine sub_tail ?_ | with_reducible refine sub_app ?_) (by with_reducible assumption) (by with_reducible assumption) (by ktr_units) ?_)) | ((with_reducible show wpAny _ _ (compareOp .Eq (.ref _) (.ref _)) _ _ _); k_dflt (refine nz_eqRow (by k_asm) (by with_reducible assumption) (by with_reducible assumption) (by repeat' first | with_reducible exact sub_refl | with_reducible refine sub_tail ?_ | with_reducible refine sub_app ?_) (by repeat' first | with_reducible exact sub_refl | with_reducible refine sub_tail ?_ | with_reducible refine sub_app ?_) (by with_reducible assumption) (by with_reducible assumption) (by ktr_units) ?_)) | ((with_reducible show wpAny _ _ (call (Value.ref _) _) _ _ _); first | ((with_reducible show wpAny _ _ (call (Value.ref 563) _) _ _ _); refine nz_stop ?_) | (walk_at "nz:row"; (· k_dflt (exact scaled_spec' (by walk_at "nz:row1") (by exact fac_m1 (by k_mem)) (by exact RowOk.scm (by assumption)))); walk_at "nz:row2") | ((with_reducible show wpAny _ _ (call (Value.ref 651) _) _ _ _); walk_at "nz:true"; (· k_dflt (apply iseq_spec <;> walk_at "nz:p")); walk_at "nz:true2") | ((with_reducible show wpAny _ _ (call (Value.ref 646) _) _ _ _); walk_at "nz:true"; (· k_dflt (apply istight_spec <;> walk_at "nz:p")); walk_at "nz:true2") | ((with_reducible show wpAny _ _ (call (Value.ref 641) _) _ _ _); walk_at "nz:true"; (· k_dflt (apply factor_spec <;> walk_at "nz:p")); walk_at "nz:true2") | ((with_reducible show wpAny _ _ (call (Value.ref 631) _) _ _ _); walk_at "nz:val"; (· k_dflt (apply holds_spec <;> walk_at "nz:p")); walk_at "nz:bool2") | ((with_reducible show wpAny _ _ (call (Value.ref 624) _) _ _ _); walk_at "nz:rt"; (· k_dflt (apply sum_spec <;> walk_at "nz:p")); walk_at "nz:rt2") | ((with_reducible show wpAny _ _ (call (Value.ref 598) _) _ _ _); walk_at "nz:val"; (· k_dflt (apply hopeless_spec <;> walk_at "nz:p")); walk_at "nz:bool2") | ((with_reducible show wpAny _ _ (call (Value.ref 584) _) _ _ _); walk_at "nz:row"; (· k_dflt (apply tight_spec <;> walk_at "nz:p")); walk_at "nz:row2") | ((with_reducible show wpAny _ _ (call (Value.ref 591) _) _ _ _); walk_at "nz:val"; (· k_dflt (exact truth_spec (by walk_at "nz:row1") (by first | assumption | exact RowOk.len (by assumption)))); walk_at "nz:or2") | ((with_reducible show wpAny _ _ (call (Value.ref 577) _) _ _ _); walk_at "nz:val"; (· k_dflt (apply hw_spec <;> walk_at "nz:p")); walk_at "nz:bool2") | ((with_reducible show wpAny _ _ (call (Value.ref 261) _) _ _ _); walk_at "nz:val"; (· k_dflt (apply sort_spec <;> walk_at "nz:p")); walk_at "nz:intx2") | ((with_reducible show wpAny _ _ (call (Value.ref 570) _) _ _ _); walk_at "nz:row"; (· k_dflt (apply wholerow_spec <;> walk_at "nz:p")); walk_at "nz:row2") | ((with_reducible show wpAny _ _ (call (Value.ref 556) _) _ _ _); walk_at "nz:row"; (· k_dflt (exact scaled_spec' (by walk_at "nz:row1") (by first | assumption | exact fac_m | exact fac_led (by k_mem)) (by first | assumption | exact RowOk.scm (by assumption)))); walk_at "nz:row2") | ((with_reducible show wpAny _ _ (call (Value.ref 556) _) _ _ _); walk_at "nz:row"; (· k_dflt (exact scnorm_spec (by walk_at "nz:row1") (by first | with_reducible assumption | exact fac_one' (by assumption) | exact fac_led' (by assumption) (by k_mem)) (by assumption))); walk_at "nz:row2") | ((with_reducible show wpAny _ _ (call (Value.ref 563) _) _ _ _); walk_at "nz:wf"; (· k_dflt (exact wf_spec (by walk_at "nz:row1") (by exact RowOk.den (by assumption)) (by exact RowOk.num (by assumption)) (by exact RowOk.S (by assumption)))); walk_at "nz:wf2")) | walk1 | (dsimp only; walk1) | (leave1; (try dsimp only)) | fail "no step"))
            · (rename Fr _ _ _ _ => F4); (rename News _ _ _ _ => N4)
              (rename (row.rel == _) = true => hre)
              (rename RowIn _ _ (Row.scaled (Row.norm row) (-1)) => hpl)
              (rename _ < (0 : Int) => hng)
              unfold NzStop
              refine nz_eqRow N4 hfd1 hpl (by repeat' first | with_reducible exact sub_refl | with_reducible refine sub_tail ?_ | with_reducible refine sub_app ?_) (by repeat' first | with_reducible exact sub_refl | with_reducible refine sub_tail ?_ | with_reducible refine sub_app ?_) (e1.trans (whole_eq_neg (show (row.norm.rel == Str.ofString "=") = true from hre) hts9 hng)) lf.sok (by ktr_units) ?_
              (repeat' (first | (k_unfold; (try dsimp only)) | (k_end; wrow_close) | ((with_reducible show wpAny _ _ (compareOp .NotEq (.ref _) (.ref _)) _ _ _); k_dflt (refine nz_neRow (by k_asm) (by with_reducible assumption) (by with_reducible assumption) (by repeat' first | with_reducible exact sub_refl | with_reducible refine sub_tail ?_ | with_reducible refine sub_app ?_) (by repeat' first | with_reducible exact sub_refl | with_reducible refine sub_tail ?_ | with_reducible refine sub_app ?_) (by with_reducible assumption) (by with_reducible assumption) (by ktr_units) ?_)) | ((with_reducible show wpAny _ _ (compareOp .Eq (.ref _) (.ref _)) _ _ _); k_dflt (refine nz_eqRow (by k_asm) (by with_reducible assumption) (by with_reducible assumption) (by repeat' first | with_reducible exact sub_refl | with_reducible refine sub_tail ?_ | with_reducible refine sub_app ?_) (by repeat' first | with_reducible exact sub_refl | with_reducible refine sub_tail ?_ | with_reducible refine sub_app ?_) (by with_reducible assumption) (by with_reducible assumption) (by ktr_units) ?_)) | ((with_reducible show wpAny _ _ (call (Value.ref _) _) _ _ _); first | ((with_reducible show wpAny _ _ (call (Value.ref 563) _) _ _ _); refine nz_stop ?_) | (walk_at "nz:row"; (· k_dflt (exact scaled_spec' (by walk_at "nz:row1") (by exact fac_m1 (by k_mem)) (by exact RowOk.scm (by assumption)))); walk_at "nz:row2") | ((with_reducible show wpAny _ _ (call (Value.ref 651) _) _ _ _); walk_at "nz:true"; (· k_dflt (apply iseq_spec <;> walk_at "nz:p")); walk_at "nz:true2") | ((with_reducible show wpAny _ _ (call (Value.ref 646) _) _ _ _); walk_at "nz:true"; (· k_dflt (apply istight_spec <;> walk_at "nz:p")); walk_at "nz:true2") | ((with_reducible show wpAny _ _ (call (Value.ref 641) _) _ _ _); walk_at "nz:true"; (· k_dflt (apply factor_spec <;> walk_at "nz:p")); walk_at "nz:true2") | ((with_reducible show wpAny _ _ (call (Value.ref 631) _) _ _ _); walk_at "nz:val"; (· k_dflt (apply holds_spec <;> walk_at "nz:p")); walk_at "nz:bool2") | ((with_reducible show wpAny _ _ (call (Value.ref 624) _) _ _ _); walk_at "nz:rt"; (· k_dflt (apply sum_spec <;> walk_at "nz:p")); walk_at "nz:rt2") | ((with_reducible show wpAny _ _ (call (Value.ref 598) _) _ _ _); walk_at "nz:val"; (· k_dflt (apply hopeless_spec <;> walk_at "nz:p")); walk_at "nz:bool2") | ((with_reducible show wpAny _ _ (call (Value.ref 584) _) _ _ _); walk_at "nz:row"; (· k_dflt (apply tight_spec <;> walk_at "nz:p")); walk_at "nz:row2") | ((with_reducible show wpAny _ _ (call (Value.ref 591) _) _ _ _); walk_at "nz:val"; (· k_dflt (exact truth_spec (by walk_at "nz:row1") (by first | assumption | exact RowOk.len (by assumption)))); walk_at "nz:or2") | ((with_reducible show wpAny _ _ (call (Value.ref 577) _) _ _ _); walk_at "nz:val"; (· k_dflt (apply hw_spec <;> walk_at "nz:p")); walk_at "nz:bool2") | ((with_reducible show wpAny _ _ (call (Value.ref 261) _) _ _ _); walk_at "nz:val"; (· k_dflt (apply sort_spec <;> walk_at "nz:p")); walk_at "nz:intx2") | ((with_reducible show wpAny _ _ (call (Value.ref 570) _) _ _ _); walk_at "nz:row"; (· k_dflt (apply wholerow_spec <;> walk_at "nz:p")); walk_at "nz:row2") | ((with_reducible show wpAny _ _ (call (Value.ref 556) _) _ _ _); walk_at "nz:row"; (· k_dflt (exact scaled_spec' (by walk_at "nz:row1") (by first | assumption | exact fac_m | exact fac_led (by k_mem)) (by first | assumption | exact RowOk.scm (by assumption)))); walk_at "nz:row2") | ((with_reducible show wpAny _ _ (call (Value.ref 556) _) _ _ _); walk_at "nz:row"; (· k_dflt (exact scnorm_spec (by walk_at "nz:row1") (by first | with_reducible assumption | exact fac_one' (by assumption) | exact fac_led' (by assumption) (by k_mem)) (by assumption))); walk_at "nz:row2") | ((with_reducible show wpAny _ _ (call (Value.ref 563) _) _ _ _); walk_at "nz:wf"; (· k_dflt (exact wf_spec (by walk_at "nz:row1") (by exact RowOk.den (by assumption)) (by exact RowOk.num (by assumption)) (by exact RowOk.S (by assumption)))); walk_at "nz:wf2")) | walk1 | (dsimp only; walk1) | (leave1; (try dsimp only)) | fail "no step"))
              rw [e2]
              exact hret _ _ _ _ (by k_asm) (by k_asm)
            · (rename Fr _ _ _ _ => F4); (rename News _ _ _ _ => N4)
              (rename RowIn _ _ (Row.norm row) => hpl)
              unfold NzStop
              refine nz_eqRow N4 hfd1 hpl (by repeat' first | with_reducible exact sub_refl | with_reducible refine sub_tail ?_ | with_reducible refine sub_app ?_) (by repeat' first | with_reducible exact sub_refl | with_reducible refine sub_tail ?_ | with_reducible refine sub_app ?_) (e1.trans (whole_eq_pos hts9 (by with_reducible assumption))) lf.sok (by ktr_units) ?_
              (repeat' (first | (k_unfold; (try dsimp only)) | (k_end; wrow_close) | ((with_reducible show wpAny _ _ (compareOp .NotEq (.ref _) (.ref _)) _ _ _); k_dflt (refine nz_neRow (by k_asm) (by with_reducible assumption) (by with_reducible assumption) (by repeat' first | with_reducible exact sub_refl | with_reducible refine sub_tail ?_ | with_reducible refine sub_app ?_) (by repeat' first | with_reducible exact sub_refl | with_reducible refine sub_tail ?_ | with_reducible refine sub_app ?_) (by with_reducible assumption) (by with_reducible assumption) (by ktr_units) ?_)) | ((with_reducible show wpAny _ _ (compareOp .Eq (.ref _) (.ref _)) _ _ _); k_dflt (refine nz_eqRow (by k_asm) (by with_reducible assumption) (by with_reducible assumption) (by repeat' first | with_reducible exact sub_refl | with_reducible refine sub_tail ?_ | with_reducible refine sub_app ?_) (by repeat' first | with_reducible exact sub_refl | with_reducible refine sub_tail ?_ | with_reducible refine sub_app ?_) (by with_reducible assumption) (by with_reducible assumption) (by ktr_units) ?_)) | ((with_reducible show wpAny _ _ (call (Value.ref _) _) _ _ _); first | ((with_reducible show wpAny _ _ (call (Value.ref 563) _) _ _ _); refine nz_stop ?_) | (walk_at "nz:row"; (· k_dflt (exact scaled_spec' (by walk_at "nz:row1") (by exact fac_m1 (by k_mem)) (by exact RowOk.scm (by assumption)))); walk_at "nz:row2") | ((with_reducible show wpAny _ _ (call (Value.ref 651) _) _ _ _); walk_at "nz:true"; (· k_dflt (apply iseq_spec <;> walk_at "nz:p")); walk_at "nz:true2") | ((with_reducible show wpAny _ _ (call (Value.ref 646) _) _ _ _); walk_at "nz:true"; (· k_dflt (apply istight_spec <;> walk_at "nz:p")); walk_at "nz:true2") | ((with_reducible show wpAny _ _ (call (Value.ref 641) _) _ _ _); walk_at "nz:true"; (· k_dflt (apply factor_spec <;> walk_at "nz:p")); walk_at "nz:true2") | ((with_reducible show wpAny _ _ (call (Value.ref 631) _) _ _ _); walk_at "nz:val"; (· k_dflt (apply holds_spec <;> walk_at "nz:p")); walk_at "nz:bool2") | ((with_reducible show wpAny _ _ (call (Value.ref 624) _) _ _ _); walk_at "nz:rt"; (· k_dflt (apply sum_spec <;> walk_at "nz:p")); walk_at "nz:rt2") | ((with_reducible show wpAny _ _ (call (Value.ref 598) _) _ _ _); walk_at "nz:val"; (· k_dflt (apply hopeless_spec <;> walk_at "nz:p")); walk_at "nz:bool2") | ((with_reducible show wpAny _ _ (call (Value.ref 584) _) _ _ _); walk_at "nz:row"; (· k_dflt (apply tight_spec <;> walk_at "nz:p")); walk_at "nz:row2") | ((with_reducible show wpAny _ _ (call (Value.ref 591) _) _ _ _); walk_at "nz:val"; (· k_dflt (exact truth_spec (by walk_at "nz:row1") (by first | assumption | exact RowOk.len (by assumption)))); walk_at "nz:or2") | ((with_reducible show wpAny _ _ (call (Value.ref 577) _) _ _ _); walk_at "nz:val"; (· k_dflt (apply hw_spec <;> walk_at "nz:p")); walk_at "nz:bool2") | ((with_reducible show wpAny _ _ (call (Value.ref 261) _) _ _ _); walk_at "nz:val"; (· k_dflt (apply sort_spec <;> walk_at "nz:p")); walk_at "nz:intx2") | ((with_reducible show wpAny _ _ (call (Value.ref 570) _) _ _ _); walk_at "nz:row"; (· k_dflt (apply wholerow_spec <;> walk_at "nz:p")); walk_at "nz:row2") | ((with_reducible show wpAny _ _ (call (Value.ref 556) _) _ _ _); walk_at "nz:row"; (· k_dflt (exact scaled_spec' (by walk_at "nz:row1") (by first | assumption | exact fac_m | exact fac_led (by k_mem)) (by first | assumption | exact RowOk.scm (by assumption)))); walk_at "nz:row2") | ((with_reducible show wpAny _ _ (call (Value.ref 556) _) _ _ _); walk_at "nz:row"; (· k_dflt (exact scnorm_spec (by walk_at "nz:row1") (by first | with_reducible assumption | exact fac_one' (by assumption) | exact fac_led' (by assumption) (by k_mem)) (by assumption))); walk_at "nz:row2") | ((with_reducible show wpAny _ _ (call (Value.ref 563) _) _ _ _); walk_at "nz:wf"; (· k_dflt (exact wf_spec (by walk_at "nz:row1") (by exact RowOk.den (by assumption)) (by exact RowOk.num (by assumption)) (by exact RowOk.S (by assumption)))); walk_at "nz:wf2")) | walk1 | (dsimp only; walk1) | (leave1; (try dsimp only)) | fail "no step"))
              rw [e2]
              exact hret _ _ _ _ (by k_asm) (by k_asm)
        · (rename Fr _ _ _ _ => F4); (rename News _ _ _ _ => N4)
          (rename RowIn _ _ (Row.norm row) => hpl)
          (rename (row.rel == _) = false => hre)
          unfold NzStop
          refine nz_eqRow N4 hfd1 hpl (by repeat' first | with_reducible exact sub_refl | with_reducible refine sub_tail ?_ | with_reducible refine sub_app ?_) (by repeat' first | with_reducible exact sub_refl | with_reducible refine sub_tail ?_ | with_reducible refine sub_app ?_) (e1.trans (whole_eq_ne (show (row.norm.rel == Str.ofString "=") = false from hre))) lf.sok (by ktr_units) ?_
          (repeat' (first | (k_unfold; (try dsimp only)) | (k_end; wrow_close) | ((with_reducible show wpAny _ _ (compareOp .NotEq (.ref _) (.ref _)) _ _ _); k_dflt (refine nz_neRow (by k_asm) (by with_reducible assumption) (by with_reducible assumption) (by repeat' first | with_reducible exact sub_refl | with_reducible refine sub_tail ?_ | with_reducible refine sub_app ?_) (by repeat' first | with_reducible exact sub_refl | with_reducible refine sub_tail ?_ | with_reducible refine sub_app ?_) (by with_reducible assumption) (by with_reducible assumption) (by ktr_units) ?_)) | ((with_reducible show wpAny _ _ (compareOp .Eq (.ref _) (.ref _)) _ _ _); k_dflt (refine nz_eqRow (by k_asm) (by with_reducible assumption) (by with_reducible assumption) (by repeat' first | with_reducible exact sub_refl | with_reducible refine sub_tail ?_ | with_reducible refine sub_app ?_) (by repeat' first | with_reducible exact sub_refl | with_reducible refine sub_tail ?_ | with_reducible refine sub_app ?_) (by with_reducible assumption) (by with_reducible assumption) (by ktr_units) ?_)) | ((with_reducible show wpAny _ _ (call (Value.ref _) _) _ _ _); first | ((with_reducible show wpAny _ _ (call (Value.ref 563) _) _ _ _); refine nz_stop ?_) | (walk_at "nz:row"; (· k_dflt (exact scaled_spec' (by walk_at "nz:row1") (by exact fac_m1 (by k_mem)) (by exact RowOk.scm (by assumption)))); walk_at "nz:row2") | ((with_reducible show wpAny _ _ (call (Value.ref 651) _) _ _ _); walk_at "nz:true"; (· k_dflt (apply iseq_spec <;> walk_at "nz:p")); walk_at "nz:true2") | ((with_reducible show wpAny _ _ (call (Value.ref 646) _) _ _ _); walk_at "nz:true"; (· k_dflt (apply istight_spec <;> walk_at "nz:p")); walk_at "nz:true2") | ((with_reducible show wpAny _ _ (call (Value.ref 641) _) _ _ _); walk_at "nz:true"; (· k_dflt (apply factor_spec <;> walk_at "nz:p")); walk_at "nz:true2") | ((with_reducible show wpAny _ _ (call (Value.ref 631) _) _ _ _); walk_at "nz:val"; (· k_dflt (apply holds_spec <;> walk_at "nz:p")); walk_at "nz:bool2") | ((with_reducible show wpAny _ _ (call (Value.ref 624) _) _ _ _); walk_at "nz:rt"; (· k_dflt (apply sum_spec <;> walk_at "nz:p")); walk_at "nz:rt2") | ((with_reducible show wpAny _ _ (call (Value.ref 598) _) _ _ _); walk_at "nz:val"; (· k_dflt (apply hopeless_spec <;> walk_at "nz:p")); walk_at "nz:bool2") | ((with_reducible show wpAny _ _ (call (Value.ref 584) _) _ _ _); walk_at "nz:row"; (· k_dflt (apply tight_spec <;> walk_at "nz:p")); walk_at "nz:row2") | ((with_reducible show wpAny _ _ (call (Value.ref 591) _) _ _ _); walk_at "nz:val"; (· k_dflt (exact truth_spec (by walk_at "nz:row1") (by first | assumption | exact RowOk.len (by assumption)))); walk_at "nz:or2") | ((with_reducible show wpAny _ _ (call (Value.ref 577) _) _ _ _); walk_at "nz:val"; (· k_dflt (apply hw_spec <;> walk_at "nz:p")); walk_at "nz:bool2") | ((with_reducible show wpAny _ _ (call (Value.ref 261) _) _ _ _); walk_at "nz:val"; (· k_dflt (apply sort_spec <;> walk_at "nz:p")); walk_at "nz:intx2") | ((with_reducible show wpAny _ _ (call (Value.ref 570) _) _ _ _); walk_at "nz:row"; (· k_dflt (apply wholerow_spec <;> walk_at "nz:p")); walk_at "nz:row2") | ((with_reducible show wpAny _ _ (call (Value.ref 556) _) _ _ _); walk_at "nz:row"; (· k_dflt (exact scaled_spec' (by walk_at "nz:row1") (by first | assumption | exact fac_m | exact fac_led (by k_mem)) (by first | assumption | exact RowOk.scm (by assumption)))); walk_at "nz:row2") | ((with_reducible show wpAny _ _ (call (Value.ref 556) _) _ _ _); walk_at "nz:row"; (· k_dflt (exact scnorm_spec (by walk_at "nz:row1") (by first | with_reducible assumption | exact fac_one' (by assumption) | exact fac_led' (by assumption) (by k_mem)) (by assumption))); walk_at "nz:row2") | ((with_reducible show wpAny _ _ (call (Value.ref 563) _) _ _ _); walk_at "nz:wf"; (· k_dflt (exact wf_spec (by walk_at "nz:row1") (by exact RowOk.den (by assumption)) (by exact RowOk.num (by assumption)) (by exact RowOk.S (by assumption)))); walk_at "nz:wf2")) | walk1 | (dsimp only; walk1) | (leave1; (try dsimp only)) | fail "no step"))
          rw [e2]
          exact hret _ _ _ _ (by k_asm) (by k_asm)
      · rw [hw] at F3 hwh
        refine nz_eq N3 (DatIn.list (by k_mem) (ints_dat hK1)) (DatIn.list (by k_mem) .nil) (ints_ok _ 7) rfl (by ktr_units) (r := true) (whole_nil_iff hwh) ?_
        by_cases he : row.rel = Str.ofString "="
        · obtain ⟨fts, fb, e, ef⟩ := lf.eq hz hw he
          rw [e] at hfd1
          (repeat' (first | (k_unfold; (try dsimp only)) | (k_end; wrow_close) | ((with_reducible show wpAny _ _ (compareOp .NotEq (.ref _) (.ref _)) _ _ _); k_dflt (refine nz_neRow (by k_asm) (by with_reducible assumption) (by with_reducible assumption) (by repeat' first | with_reducible exact sub_refl | with_reducible refine sub_tail ?_ | with_reducible refine sub_app ?_) (by repeat' first | with_reducible exact sub_refl | with_reducible refine sub_tail ?_ | with_reducible refine sub_app ?_) (by with_reducible assumption) (by with_reducible assumption) (by ktr_units) ?_)) | ((with_reducible show wpAny _ _ (compareOp .Eq (.ref _) (.ref _)) _ _ _); k_dflt (refine nz_eqRow (by k_asm) (by with_reducible assumption) (by with_reducible assumption) (by repeat' first | with_reducible exact sub_refl | with_reducible refine sub_tail ?_ | with_reducible refine sub_app ?_) (by repeat' first | with_reducible exact sub_refl | with_reducible refine sub_tail ?_ | with_reducible refine sub_app ?_) (by with_reducible assumption) (by with_reducible assumption) (by ktr_units) ?_)) | ((with_reducible show wpAny _ _ (call (Value.ref _) _) _ _ _); first | ((with_reducible show wpAny _ _ (call (Value.ref 563) _) _ _ _); refine nz_stop ?_) | (walk_at "nz:row"; (· k_dflt (exact scaled_spec' (by walk_at "nz:row1") (by exact fac_m1 (by k_mem)) (by exact RowOk.scm (by assumption)))); walk_at "nz:row2") | ((with_reducible show wpAny _ _ (call (Value.ref 651) _) _ _ _); walk_at "nz:true"; (· k_dflt (apply iseq_spec <;> walk_at "nz:p")); walk_at "nz:true2") | ((with_reducible show wpAny _ _ (call (Value.ref 646) _) _ _ _); walk_at "nz:true"; (· k_dflt (apply istight_spec <;> walk_at "nz:p")); walk_at "nz:true2") | ((with_reducible show wpAny _ _ (call (Value.ref 641) _) _ _ _); walk_at "nz:true"; (· k_dflt (apply factor_spec <;> walk_at "nz:p")); walk_at "nz:true2") | ((with_reducible show wpAny _ _ (call (Value.ref 631) _) _ _ _); walk_at "nz:val"; (· k_dflt (apply holds_spec <;> walk_at "nz:p")); walk_at "nz:bool2") | ((with_reducible show wpAny _ _ (call (Value.ref 624) _) _ _ _); walk_at "nz:rt"; (· k_dflt (apply sum_spec <;> walk_at "nz:p")); walk_at "nz:rt2") | ((with_reducible show wpAny _ _ (call (Value.ref 598) _) _ _ _); walk_at "nz:val"; (· k_dflt (apply hopeless_spec <;> walk_at "nz:p")); walk_at "nz:bool2") | ((with_reducible show wpAny _ _ (call (Value.ref 584) _) _ _ _); walk_at "nz:row"; (· k_dflt (apply tight_spec <;> walk_at "nz:p")); walk_at "nz:row2") | ((with_reducible show wpAny _ _ (call (Value.ref 591) _) _ _ _); walk_at "nz:val"; (· k_dflt (exact truth_spec (by walk_at "nz:row1") (by first | assumption | exact RowOk.len (by assumption)))); walk_at "nz:or2") | ((with_reducible show wpAny _ _ (call (Value.ref 577) _) _ _ _); walk_at "nz:val"; (· k_dflt (apply hw_spec <;> walk_at "nz:p")); walk_at "nz:bool2") | ((with_reducible show wpAny _ _ (call (Value.ref 261) _) _ _ _); walk_at "nz:val"; (· k_dflt (apply sort_spec <;> walk_at "nz:p")); walk_at "nz:intx2") | ((with_reducible show wpAny _ _ (call (Value.ref 570) _) _ _ _); walk_at "nz:row"; (· k_dflt (apply wholerow_spec <;> walk_at "nz:p")); walk_at "nz:row2") | ((with_reducible show wpAny _ _ (call (Value.ref 556) _) _ _ _); walk_at "nz:row"; (· k_dflt (exact scaled_spec' (by walk_at "nz:row1") (by first | assumption | exact fac_m | exact fac_led (by k_mem)) (by first | assumption | exact RowOk.scm (by assumption)))); walk_at "nz:row2") | ((with_reducible show wpAny _ _ (call (Value.ref 556) _) _ _ _); walk_at "nz:row"; (· k_dflt (exact scnorm_spec (by walk_at "nz:row1") (by first | with_reducible assumption | exact fac_one' (by assumption) | exact fac_led' (by assumption) (by k_mem)) (by assumption))); walk_at "nz:row2") | ((with_reducible show wpAny _ _ (call (Value.ref 563) _) _ _ _); walk_at "nz:wf"; (· k_dflt (exact wf_spec (by walk_at "nz:row1") (by exact RowOk.den (by assumption)) (by exact RowOk.num (by assumption)) (by exact RowOk.S (by assumption)))); walk_at "nz:wf2")) | walk1 | (dsimp only; walk1) | (leave1; (try dsimp only)) | fail "no step"))
          exact hret _ _ _ _ (by k_asm) (by k_asm)
        · obtain ⟨fts, fb, e, tf⟩ := lf.ti hz hw he
          rw [e] at hfd1
          (repeat' (first | (k_unfold; (try dsimp only)) | (k_end; wrow_close) | ((with_reducible show wpAny _ _ (compareOp .NotEq (.ref _) (.ref _)) _ _ _); k_dflt (refine nz_neRow (by k_asm) (by with_reducible assumption) (by with_reducible assumption) (by repeat' first | with_reducible exact sub_refl | with_reducible refine sub_tail ?_ | with_reducible refine sub_app ?_) (by repeat' first | with_reducible exact sub_refl | with_reducible refine sub_tail ?_ | with_reducible refine sub_app ?_) (by with_reducible assumption) (by with_reducible assumption) (by ktr_units) ?_)) | ((with_reducible show wpAny _ _ (compareOp .Eq (.ref _) (.ref _)) _ _ _); k_dflt (refine nz_eqRow (by k_asm) (by with_reducible assumption) (by with_reducible assumption) (by repeat' first | with_reducible exact sub_refl | with_reducible refine sub_tail ?_ | with_reducible refine sub_app ?_) (by repeat' first | with_reducible exact sub_refl | with_reducible refine sub_tail ?_ | with_reducible refine sub_app ?_) (by with_reducible assumption) (by with_reducible assumption) (by ktr_units) ?_)) | ((with_reducible show wpAny _ _ (call (Value.ref _) _) _ _ _); first | ((with_reducible show wpAny _ _ (call (Value.ref 563) _) _ _ _); refine nz_stop ?_) | (walk_at "nz:row"; (· k_dflt (exact scaled_spec' (by walk_at "nz:row1") (by exact fac_m1 (by k_mem)) (by exact RowOk.scm (by assumption)))); walk_at "nz:row2") | ((with_reducible show wpAny _ _ (call (Value.ref 651) _) _ _ _); walk_at "nz:true"; (· k_dflt (apply iseq_spec <;> walk_at "nz:p")); walk_at "nz:true2") | ((with_reducible show wpAny _ _ (call (Value.ref 646) _) _ _ _); walk_at "nz:true"; (· k_dflt (apply istight_spec <;> walk_at "nz:p")); walk_at "nz:true2") | ((with_reducible show wpAny _ _ (call (Value.ref 641) _) _ _ _); walk_at "nz:true"; (· k_dflt (apply factor_spec <;> walk_at "nz:p")); walk_at "nz:true2") | ((with_reducible show wpAny _ _ (call (Value.ref 631) _) _ _ _); walk_at "nz:val"; (· k_dflt (apply holds_spec <;> walk_at "nz:p")); walk_at "nz:bool2") | ((with_reducible show wpAny _ _ (call (Value.ref 624) _) _ _ _); walk_at "nz:rt"; (· k_dflt (apply sum_spec <;> walk_at "nz:p")); walk_at "nz:rt2") | ((with_reducible show wpAny _ _ (call (Value.ref 598) _) _ _ _); walk_at "nz:val"; (· k_dflt (apply hopeless_spec <;> walk_at "nz:p")); walk_at "nz:bool2") | ((with_reducible show wpAny _ _ (call (Value.ref 584) _) _ _ _); walk_at "nz:row"; (· k_dflt (apply tight_spec <;> walk_at "nz:p")); walk_at "nz:row2") | ((with_reducible show wpAny _ _ (call (Value.ref 591) _) _ _ _); walk_at "nz:val"; (· k_dflt (exact truth_spec (by walk_at "nz:row1") (by first | assumption | exact RowOk.len (by assumption)))); walk_at "nz:or2") | ((with_reducible show wpAny _ _ (call (Value.ref 577) _) _ _ _); walk_at "nz:val"; (· k_dflt (apply hw_spec <;> walk_at "nz:p")); walk_at "nz:bool2") | ((with_reducible show wpAny _ _ (call (Value.ref 261) _) _ _ _); walk_at "nz:val"; (· k_dflt (apply sort_spec <;> walk_at "nz:p")); walk_at "nz:intx2") | ((with_reducible show wpAny _ _ (call (Value.ref 570) _) _ _ _); walk_at "nz:row"; (· k_dflt (apply wholerow_spec <;> walk_at "nz:p")); walk_at "nz:row2") | ((with_reducible show wpAny _ _ (call (Value.ref 556) _) _ _ _); walk_at "nz:row"; (· k_dflt (exact scaled_spec' (by walk_at "nz:row1") (by first | assumption | exact fac_m | exact fac_led (by k_mem)) (by first | assumption | exact RowOk.scm (by assumption)))); walk_at "nz:row2") | ((with_reducible show wpAny _ _ (call (Value.ref 556) _) _ _ _); walk_at "nz:row"; (· k_dflt (exact scnorm_spec (by walk_at "nz:row1") (by first | with_reducible assumption | exact fac_one' (by assumption) | exact fac_led' (by assumption) (by k_mem)) (by assumption))); walk_at "nz:row2") | ((with_reducible show wpAny _ _ (call (Value.ref 563) _) _ _ _); walk_at "nz:wf"; (· k_dflt (exact wf_spec (by walk_at "nz:row1") (by exact RowOk.den (by assumption)) (by exact RowOk.num (by assumption)) (by exact RowOk.S (by assumption)))); walk_at "nz:wf2")) | walk1 | (dsimp only; walk1) | (leave1; (try dsimp only)) | fail "no step"))
          exact hret _ _ _ _ (by k_asm) (by k_asm)
end
section
theorem low_facts {x y : Int} (hy : 0 < y) : (Rat.divInt x y).num.natAbs ≤ x.natAbs ∧ ((Rat.divInt x y).den : Int) ≤ y ∧ (x ≠ 0 → Rat.divInt x y ≠ 0) := by
  have hg := gcd_pos_right (n := x) hy
  refine ⟨?_, ?_, fun h e => ?_⟩
  · rw [← rt_num hy]
    exact fdiv_le (by omega)
  · rw [← rt_den hy]
    have := fdiv_le (a := y) (b := (Int.gcd x y : Int)) (by omega)
    omega
  · have h1 := rt_num (n := x) hy
    rw [e] at h1
    have h2 := fdiv_mul (a := x) (b := (Int.gcd x y : Int)) (Int.gcd_dvd_left x y)
    rw [h1] at h2
    exact h (by rw [← h2]; exact Int.zero_mul _)
theorem mul_bd (a b : Rat) : (a * b).num.natAbs ≤ a.num.natAbs * b.num.natAbs ∧ (a * b).den ≤ a.den * b.den := by
  rw [mul_val]
  obtain ⟨h1, h2, _⟩ := low_facts (x := a.num * b.num) (y := (a.den : Int) * (b.den : Int)) (Int.mul_pos (den_pos a) (den_pos b))
  refine ⟨by rwa [Int.natAbs_mul] at h1, ?_⟩
  rw [← Int.natCast_mul] at h2
  exact Int.ofNat_le.mp h2
theorem mul_bd' {a b : Rat} {n d m e : Nat} (h1 : a.num.natAbs ≤ n) (h2 : a.den ≤ d) (h3 : b.num.natAbs ≤ m) (h4 : b.den ≤ e) : (a * b).num.natAbs ≤ n * m ∧ (a * b).den ≤ d * e :=
  ⟨Nat.le_trans (mul_bd a b).1 (Nat.mul_le_mul h1 h3), Nat.le_trans (mul_bd a b).2 (Nat.mul_le_mul h2 h4)⟩
/-- bounds of a row -/
structure Bd (row : Row) (n d nb db : Nat) : Prop where
  len : row.ts.length ≤ 3
  nz : ∀ t ∈ row.ts, t.2 ≠ 0
  num : ∀ t ∈ row.ts, t.2.num.natAbs ≤ n
  den : ∀ t ∈ row.ts, t.2.den ≤ d
  bnum : row.b.num.natAbs ≤ nb
  bden : row.b.den ≤ db
theorem pow_le {d k : Nat} (hd : 0 < d) (hk : k ≤ 3) : d ^ k ≤ d * d * d := by
  have : d ^ k ≤ d ^ 3 := Nat.pow_le_pow_right hd hk
  rwa [Nat.pow_succ, Nat.pow_succ, Nat.pow_succ, Nat.pow_zero, Nat.one_mul] at this
theorem wfC_bd (d : Nat) : ∀ (ts : List (Int × Rat)), (∀ t ∈ ts, t.2.den ≤ d) → ∀ c : Int, (ts.foldl (fun c t => (Int.lcm c (t.2.den : Int) : Int)) c).natAbs ≤ c.natAbs * d ^ ts.length
  | [], _, c => by simp
  | t :: ts, h, c => by
    have ih := wfC_bd d ts (fun u hu => h u (List.mem_cons_of_mem _ hu)) (Int.lcm c (t.2.den : Int) : Int)
    refine Nat.le_trans ih ?_
    have h1 : Int.lcm c (t.2.den : Int) ≤ c.natAbs * d := by
      rcases Nat.eq_zero_or_pos c.natAbs with h0 | h0
      · rw [Int.lcm, h0, Nat.lcm_zero_left, Nat.zero_mul]
        exact Nat.le_refl _
      · rw [Int.lcm, Int.natAbs_natCast]
        exact Nat.le_trans (Nat.lcm_le_mul h0 t.2.den_pos) (Nat.mul_le_mul_left _ (h t List.mem_cons_self))
    rw [Int.natAbs_natCast, List.length_cons, Nat.pow_succ', ← Nat.mul_assoc]
    exact Nat.mul_le_mul_right _ h1
section
variable {row : Row} {n d nb db : Nat}
theorem Bd.nonZ (h : Bd row n d nb db) (hz : row.ts ≠ []) : NonZ row := ⟨hz, h.nz⟩
theorem Bd.or (h : Bd row n d nb db) : row.ts = [] ∨ NonZ row := by
  by_cases hz : row.ts = []
  · exact .inl hz
  · exact .inr (h.nonZ hz)
theorem Bd.dpos (h : Bd row n d nb db) (hz : row.ts ≠ []) : 0 < d := by
  obtain ⟨t, ts, e⟩ := List.exists_cons_of_ne_nil hz
  have := h.den t (by rw [e]; exact List.mem_cons_self)
  have := t.2.den_pos
  omega
theorem Bd.C (h : Bd row n d nb db) (hz : row.ts ≠ []) : (wfC row.ts).natAbs ≤ d * d * d := by
  have h1 := wfC_bd d row.ts h.den 1
  refine Nat.le_trans h1 ?_
  rw [show (1 : Int).natAbs = 1 from rfl, Nat.one_mul]
  exact pow_le (h.dpos hz) h.len
theorem Bd.S (h : Bd row n d nb db) (hz : row.ts ≠ []) : 0 < wfS row.ts (wfC row.ts) ∧ (wfS row.ts (wfC row.ts)).natAbs ≤ n * (d * d * d) := by
  refine ⟨wfS_pos hz h.nz, ?_⟩
  obtain ⟨t, ts, e⟩ := List.exists_cons_of_ne_nil hz
  have ht : t ∈ row.ts := by rw [e]; exact List.mem_cons_self
  have h1 := wfS_dvd (C := wfC row.ts) t ht
  have hC := wfC_pos row.ts
  have h2 : t.2.num * (wfC row.ts).fdiv (t.2.den : Int) ≠ 0 := by
    intro h0
    have h3 := fdiv_mul (wfC_dvd t ht)
    rcases Int.mul_eq_zero.mp h0 with h0 | h0
    · exact h.nz t ht (Rat.num_eq_zero.mp h0)
    · rw [h0] at h3; omega
  have h3 : (wfS row.ts (wfC row.ts)).natAbs ≤ (t.2.num * (wfC row.ts).fdiv (t.2.den : Int)).natAbs := Nat.le_of_dvd (by omega) (Int.natAbs_dvd_natAbs.mpr h1)
  rw [Int.natAbs_mul] at h3
  refine Nat.le_trans h3 (Nat.mul_le_mul (h.num t ht) (Nat.le_trans (fdiv_le ?_) (h.C hz)))
  have := den_pos t.2
  omega
theorem Bd.wf (h : Bd row n d nb db) (hz : row.ts ≠ []) : (wf row.ts).num.natAbs ≤ d * d * d ∧ (wf row.ts).den ≤ n * (d * d * d) := by
  obtain ⟨h1, h2⟩ := h.S hz
  obtain ⟨h3, h4, _⟩ := low_facts (x := wfC row.ts) h1
  exact ⟨Nat.le_trans h3 (h.C hz), by unfold Nz.wf; omega⟩
theorem Bd.wfF (h : Bd row n d nb db) (hz : row.ts ≠ []) : (wfF row.ts).num.natAbs ≤ d * d * d ∧ (wfF row.ts).den ≤ n * (d * d * d) := by
  rw [Nz.wfF, if_neg hz]
  exact h.wf hz
theorem Bd.scaled (h : Bd row n d nb db) {φ : Rat} {p q : Nat} (h0 : φ ≠ 0) (h1 : φ.num.natAbs ≤ p) (h2 : φ.den ≤ q) : Bd (row.scaled φ) (n * p) (d * q) (nb * p) (db * q) where
  len := by rw [Row.scaled, List.length_map]; exact h.len
  nz := scale_ne h0 h.nz
  num := fun t ht => by
    obtain ⟨u, hu, rfl⟩ := List.mem_map.mp ht
    exact (mul_bd' (h.num u hu) (h.den u hu) h1 h2).1
  den := fun t ht => by
    obtain ⟨u, hu, rfl⟩ := List.mem_map.mp ht
    exact (mul_bd' (h.num u hu) (h.den u hu) h1 h2).2
  bnum := (mul_bd' h.bnum h.bden h1 h2).1
  bden := (mul_bd' h.bnum h.bden h1 h2).2
theorem Bd.le (h : Bd row n d nb db) {n' d' nb' db' : Nat} (h1 : n ≤ n') (h2 : d ≤ d') (h3 : nb ≤ nb') (h4 : db ≤ db') : Bd row n' d' nb' db' :=
  ⟨h.len, h.nz, fun t ht => Nat.le_trans (h.num t ht) h1, fun t ht => Nat.le_trans (h.den t ht) h2, Nat.le_trans h.bnum h3, Nat.le_trans h.bden h4⟩
theorem lt_abs {k : Int} {x : Nat} (h : k.natAbs ≤ x) (hx : x < 1152921504606846976) : -1152921504606846976 < k ∧ k < 1152921504606846976 := by omega
theorem lt_cast {k x : Nat} (h : k ≤ x) (hx : x < 1152921504606846976) : (k : Int) < 1152921504606846976 := by omega
theorem Bd.normd (h : Bd row n d nb db) (hz : row.ts ≠ []) : ∀ t ∈ row.norm.ts, t.2.den = 1 := by
  intro t ht
  rw [Row.norm, Nz.wfF, if_neg hz] at ht
  exact (wf_prim hz h.nz).1 t ht
theorem Bd.ok (h : Bd row n d nb db) (a1 : n < 1152921504606846976) (a2 : d < 1152921504606846976) (a3 : nb < 1152921504606846976) (a4 : db < 1152921504606846976) (a5 : n * (d * d * d) < 1152921504606846976)
    (a6 : d * (n * (d * d * d)) < 1152921504606846976) (a7 : db * (n * (d * d * d)) < 1152921504606846976) : RowOk row := by
  by_cases hz : row.ts = []
  · have e1 : Nz.wfF row.ts = 1 := by rw [Nz.wfF, if_pos hz]
    have e2 : row.norm = row := by rw [Row.norm, e1, Row.scaled_one]
    have em : ∀ {p : Int × Rat → Prop}, ∀ t ∈ row.ts, p t := fun t ht => by rw [hz] at ht; exact nomatch ht
    refine ⟨by rw [hz]; exact Nat.zero_le _, em, em, lt_abs h.bnum a3, lt_cast h.bden a4, fun x => absurd hz x, em, ?_, ?_, ?_⟩
    · rw [e1, show ((1 : Rat).den : Int) = 1 from rfl, Int.mul_one]
      exact lt_cast h.bden a4
    · rw [e2]; exact em
    · rw [e2]; exact lt_cast h.bden a4
  · obtain ⟨w1, w2⟩ := h.wfF hz
    refine ⟨Nat.le_trans h.len (by decide), fun t ht => lt_cast (h.den t ht) a2, fun t ht => lt_abs (h.num t ht) a1, lt_abs h.bnum a3, lt_cast h.bden a4, fun _ => ?_, fun t ht => ?_, ?_, fun t ht => ?_, ?_⟩
    · obtain ⟨s1, s2⟩ := h.S hz
      exact ⟨s1, (lt_abs s2 a5).2⟩
    · rw [← Int.natCast_mul]
      exact lt_cast (Nat.mul_le_mul (h.den t ht) w2) a6
    · rw [← Int.natCast_mul]
      exact lt_cast (Nat.mul_le_mul h.bden w2) a7
    · rw [h.normd hz t ht]; decide
    · exact lt_cast (mul_bd' h.bnum h.bden w1 w2).2 a7
theorem Bd.whole (h : Bd row n d nb db) (hz : row.ts ≠ []) : Bd row.whole (n * (d * d * d)) 1 (nb * (d * d * d)) (db * (n * (d * d * d))) := by
  have hn := h.nonZ hz
  obtain ⟨w1, w2⟩ := h.wfF hz
  obtain ⟨c, hc, _, e, hw⟩ := whole_form hn
  have h1 : c.num.natAbs ≤ d * d * d ∧ c.den ≤ n * (d * d * d) := by
    rcases hw with rfl | rfl
    · exact ⟨w1, w2⟩
    · rw [Rat.neg_num, Rat.neg_den, Int.natAbs_neg]; exact ⟨w1, w2⟩
  have h2 := h.scaled hc h1.1 h1.2
  rw [← e] at h2
  exact ⟨h2.len, h2.nz, h2.num, fun t ht => by rw [(prim_whole hn).1 t ht]; exact Nat.le_refl _, h2.bnum, h2.bden⟩
theorem Bd.tight (h : Bd row n d nb db) (hz : row.ts ≠ []) (srt : List Int) : Bd (row.tight srt) (n * (d * d * d)) 1 (nb * (d * d * d) + 1) (db * (n * (d * d * d))) := by
  have hw := h.whole hz
  have hp : 1 ≤ db * (n * (d * d * d)) := Nat.le_trans row.whole.b.den_pos hw.bden
  rcases tight_form srt row with ⟨_, e⟩ | ⟨_, z, e, hzz⟩
  · rw [e]
    exact hw.le (Nat.le_refl _) (Nat.le_refl _) (Nat.le_succ _) (Nat.le_refl _)
  · rw [e]
    refine ⟨hw.len, hw.nz, hw.num, hw.den, ?_, hp⟩
    show ((z : Rat).num).natAbs ≤ _
    rw [Rat.num_intCast]
    have hb := hw.bnum
    rcases hzz with ⟨_, h1, h2⟩ | ⟨_, h2⟩
    · have h3 := rat_int h1
      rw [h3, show (1 : Rat) = ((1 : Int) : Rat) from rfl, ← Rat.intCast_sub] at h2
      have := Rat.intCast_inj.mp h2
      omega
    · rw [h2, ← floor_val]
      have := fdiv_le (a := row.whole.b.num) (b := (row.whole.b.den : Int)) (by have := den_pos row.whole.b; omega)
      omega
theorem whole_ids (row : Row) : row.whole.ts.map (fun t => t.1) = row.ts.map (fun t => t.1) := by
  have key : ∀ (c : Rat) (ts : List (Int × Rat)), (ts.map (scaleT c)).map (fun t => t.1) = ts.map (fun t => t.1) := fun c ts => by rw [List.map_map]; rfl
  rw [Row.whole]
  split
  · show ((row.ts.map _).map _).map _ = _
    rw [key, key]
  · show (row.ts.map _).map _ = _
    rw [key]
theorem tight_ts (srt : List Int) (row : Row) : (row.tight srt).ts = row.whole.ts := by
  rcases tight_form srt row with ⟨_, e⟩ | ⟨_, z, e, _⟩ <;> rw [e]
theorem id_move {a b : List (Int × Rat)} (e : a.map (fun t => t.1) = b.map (fun t => t.1)) {p : Int → Prop} (h : ∀ t ∈ b, p t.1) : ∀ t ∈ a, p t.1 := fun t ht => by
  have h1 : t.1 ∈ a.map (fun t => t.1) := List.mem_map_of_mem (f := fun t : Int × Rat => t.1) ht
  rw [e] at h1
  obtain ⟨u, hu, e2⟩ := List.mem_map.mp h1
  rw [← e2]
  exact h u hu
theorem dprod_bd (d : Nat) : ∀ (l : List (Int × Rat)), (∀ t ∈ l, t.2.den ≤ d) → ∀ c : Int, (l.foldl (fun c t => c * (t.2.den : Int)) c).natAbs ≤ c.natAbs * d ^ l.length
  | [], _, c => by simp
  | t :: l, h, c => by
    have ih := dprod_bd d l (fun u hu => h u (List.mem_cons_of_mem _ hu)) (c * (t.2.den : Int))
    refine Nat.le_trans ih ?_
    rw [Int.natAbs_mul, Int.natAbs_natCast, List.length_cons, Nat.pow_succ', ← Nat.mul_assoc]
    exact Nat.mul_le_mul_right _ (Nat.mul_le_mul_left _ (h t List.mem_cons_self))
theorem Bd.sum (h : Bd row n d nb db) (hd : 0 < d) (a : d * d * d < 1152921504606846976) : SumOk row := ⟨fun i => by
  have h1 := dprod_bd d (row.ts.take i) (fun t ht => h.den t (List.mem_of_mem_take ht)) 1
  have h2 : (row.ts.take i).length ≤ 3 := by rw [List.length_take]; have := h.len; omega
  have h3 := pow_le hd h2
  rw [show (1 : Int).natAbs = 1 from rfl, Nat.one_mul] at h1
  show List.foldl _ 1 _ < _
  omega⟩
end
-- the points
theorem rsum_dot {f : Int × Rat → Int} {B : Rat} : ∀ (ts : List (Int × Rat)) (ws : List Int), (∀ t ∈ ts, (f t : Rat) = t.2 * B) → ((dot (ts.map f) ws : Int) : Rat) = rsum ts ws * B
  | [], ws, _ => by cases ws <;> simp [dot, rsum, Rat.zero_mul]
  | _ :: _, [], _ => by simp [dot, rsum, Rat.zero_mul]
  | t :: ts, x :: ws, h => by
    have ih := rsum_dot ts ws fun u hu => h u (List.mem_cons_of_mem _ hu)
    have h1 := h t List.mem_cons_self
    show ((f t * x + dot (ts.map f) ws : Int) : Rat) = (t.2 * (x : Rat) + rsum ts ws) * B
    rw [Rat.intCast_add, Rat.intCast_mul, ih, h1]
    grind
theorem dvd_dot {d : Int} : ∀ (ns ps : List Int), (∀ n ∈ ns, d ∣ n) → d ∣ dot ns ps
  | [], ps, _ => by cases ps <;> exact Int.dvd_zero _
  | _ :: _, [], _ => Int.dvd_zero _
  | n :: ns, x :: ps, h => by
    show d ∣ n * x + dot ns ps
    exact Int.dvd_add (Int.dvd_trans (h n List.mem_cons_self) (Int.dvd_mul_right _ _)) (dvd_dot ns ps fun m hm => h m (List.mem_cons_of_mem _ hm))
theorem eqFold_gen : ∀ (l : List (Int × Rat)) (c : Int), 0 < c → 0 < eqFold c l ∧ c ∣ eqFold c l ∧ ∀ t ∈ l, (t.2.den : Int) ∣ eqFold c l
  | [], c, h => ⟨h, Int.dvd_refl _, fun _ h => nomatch h⟩
  | t :: l, c, h => by
    obtain ⟨h1, h2, h3⟩ := eqFold_gen l (c * (t.2.den : Int)) (Int.mul_pos h (den_pos t.2))
    refine ⟨h1, Int.dvd_trans (Int.dvd_mul_right _ _) h2, fun u hu => ?_⟩
    rcases List.mem_cons.mp hu with rfl | hu
    · exact Int.dvd_trans (Int.dvd_mul_left _ _) h2
    · exact h3 u hu
theorem quot_rat {ρ : Rat} {B : Int} (h : (ρ.den : Int) ∣ B) : (((ρ.num * B).fdiv (ρ.den : Int) : Int) : Rat) = ρ * (B : Rat) := by
  have h1 := congrArg (Int.cast (R := Rat)) (fdiv_mul (a := ρ.num * B) (b := (ρ.den : Int)) (Int.dvd_trans h (Int.dvd_mul_left _ _)))
  have h2 := num_den ρ
  have h3 := cast_ne (show (ρ.den : Int) ≠ 0 by have := den_pos ρ; omega)
  rw [Rat.intCast_mul, Rat.intCast_mul] at h1
  generalize ((ρ.num * B).fdiv (ρ.den : Int) : Rat) = q at *
  generalize ((ρ.den : Int) : Rat) = d at *
  grind
section
variable {row : Row} {n d nb db : Nat}
theorem below_pos (row : Row) : 0 < eqBelow row := (eqFold_gen row.ts _ (den_pos row.b)).1
theorem wholeNum_rat {t : Int × Rat} (ht : t ∈ row.ts) : (wholeNum row t : Rat) = t.2 * (eqBelow row : Rat) := quot_rat ((eqFold_gen row.ts _ (den_pos row.b)).2.2 t ht)
theorem wholeB_rat (row : Row) : (wholeB row : Rat) = row.b * (eqBelow row : Rat) := quot_rat (eqFold_gen row.ts _ (den_pos row.b)).2.1
theorem Bd.below (h : Bd row n d nb db) (hz : row.ts ≠ []) : (eqBelow row).natAbs ≤ db * (d * d * d) := by
  have h1 := dprod_bd d row.ts h.den (row.b.den : Int)
  refine Nat.le_trans h1 ?_
  rw [Int.natAbs_natCast]
  exact Nat.mul_le_mul h.bden (pow_le (h.dpos hz) h.len)
theorem Bd.wn (h : Bd row n d nb db) (hz : row.ts ≠ []) : (∀ m ∈ row.ts.map (wholeNum row), m.natAbs ≤ n * (db * (d * d * d))) ∧ (wholeB row).natAbs ≤ nb * (db * (d * d * d)) := by
  have hB := h.below hz
  refine ⟨fun m hm => ?_, ?_⟩
  · obtain ⟨t, ht, rfl⟩ := List.mem_map.mp hm
    refine Nat.le_trans (fdiv_le (by have := den_pos t.2; omega)) ?_
    rw [Int.natAbs_mul]
    exact Nat.mul_le_mul (h.num t ht) hB
  · refine Nat.le_trans (fdiv_le (by have := den_pos row.b; omega)) ?_
    rw [Int.natAbs_mul]
    exact Nat.mul_le_mul h.bnum hB
/-- what the law divides by is the factor's own -/
theorem pt_wf (hn : NonZ row) {s : Int} {ps : List Int} (a : PtAns (row.ts.map (wholeNum row)) s ps) : 0 < s ∧ wfF row.ts * (s : Rat) = (eqBelow row : Rat) := by
  have hB := below_pos row
  have hBq := cast_ne (show eqBelow row ≠ 0 by omega)
  obtain ⟨t, ts, e⟩ := List.exists_cons_of_ne_nil hn.1
  have ht : t ∈ row.ts := by rw [e]; exact List.mem_cons_self
  have hs : s ≠ 0 := by
    rintro rfl
    have h1 := Int.zero_dvd.mp (a.dvd _ (List.mem_map_of_mem (f := wholeNum row) ht))
    have h2 := wholeNum_rat ht
    rw [h1] at h2
    have h3 := hn.2 t ht
    have : (0 : Rat) = t.2 * (eqBelow row : Rat) := h2
    grind
  have hs0 : 0 < s := by have := a.nn; omega
  refine ⟨hs0, ?_⟩
  have hsq := cast_ne hs
  have hsp : (0 : Rat) < (s : Rat) := Rat.intCast_pos.mpr hs0
  have hBp : (0 : Rat) < (eqBelow row : Rat) := Rat.intCast_pos.mpr hB
  have hc : 0 < (eqBelow row : Rat) / (s : Rat) := by rw [Rat.div_def]; exact Rat.mul_pos hBp (Rat.inv_pos.mpr hsp)
  have key : ∀ t ∈ row.ts, ∃ k : Int, wholeNum row t = s * k ∧ t.2 * ((eqBelow row : Rat) / (s : Rat)) = (k : Rat) := fun t ht => by
    obtain ⟨k, hk⟩ := a.dvd _ (List.mem_map_of_mem (f := wholeNum row) ht)
    refine ⟨k, hk, ?_⟩
    have h2 := wholeNum_rat ht
    rw [hk, Rat.intCast_mul] at h2
    grind
  have hp : Prim (row.ts.map (scaleT ((eqBelow row : Rat) / (s : Rat)))) := by
    refine ⟨fun t ht => ?_, fun d hd => ?_⟩
    · obtain ⟨u, hu, rfl⟩ := List.mem_map.mp ht
      obtain ⟨k, _, hk⟩ := key u hu
      show (u.2 * _).den = 1
      rw [hk]
      exact Rat.den_intCast k
    · have h : s * d ∣ s * 1 := by
        rw [Int.mul_one]
        have h1 : s * d ∣ dot (row.ts.map (wholeNum row)) ps := dvd_dot _ _ fun m hm => by
          obtain ⟨u, hu, rfl⟩ := List.mem_map.mp hm
          obtain ⟨k, e1, hk⟩ := key u hu
          have h2 := hd _ (List.mem_map_of_mem (f := scaleT ((eqBelow row : Rat) / (s : Rat))) hu)
          have e2 : (scaleT ((eqBelow row : Rat) / (s : Rat)) u).2.num = k := by show (u.2 * _).num = k; rw [hk]; rfl
          rw [e2] at h2
          rw [e1]
          exact Int.mul_dvd_mul_left _ h2
        rwa [a.sum] at h1
      exact Int.dvd_of_mul_dvd_mul_left hs h
  have := prim_unique hn.wpos hc (by rw [hn.wf]; exact wf_prim hn.1 hn.2) hp
  rw [this]
  grind
theorem rat_den_int {ρ : Rat} {k : Int} (h : ρ = (k : Rat)) : ρ.den = 1 := by rw [h]; exact Rat.den_intCast k
/-- the whole bound: up to its sign the law's own over what it divides by -/
theorem whole_b (hn : NonZ row) {s : Int} {ps : List Int} (a : PtAns (row.ts.map (wholeNum row)) s ps) : row.whole.b.den = 1 ↔ (wholeB row).fmod s = 0 := by
  obtain ⟨hs, e⟩ := pt_wf hn a
  have hsq := cast_ne (show s ≠ 0 by omega)
  have hb := wholeB_rat row
  obtain ⟨c, _, _, ew, hc⟩ := whole_form hn
  have e1 : row.whole.b * (s : Rat) = (wholeB row : Rat) ∨ row.whole.b * (s : Rat) = - (wholeB row : Rat) := by
    rw [ew]
    show row.b * c * (s : Rat) = _ ∨ row.b * c * (s : Rat) = _
    rw [hb, ← e]
    rcases hc with rfl | rfl
    · left; grind
    · right; grind
  constructor
  · intro h
    have h1 := rat_int h
    have h2 : s ∣ wholeB row := by
      rw [h1] at e1
      rcases e1 with e1 | e1
      · rw [← Rat.intCast_mul] at e1
        exact ⟨_, by rw [← Rat.intCast_inj.mp e1, Int.mul_comm]⟩
      · rw [← Rat.intCast_mul, ← Rat.intCast_neg] at e1
        have := Rat.intCast_inj.mp e1
        exact Int.dvd_neg.mp ⟨_, by rw [← this, Int.mul_comm]⟩
    exact Int.fmod_eq_zero_of_dvd h2
  · intro h
    obtain ⟨k, hk⟩ := Int.dvd_of_fmod_eq_zero h
    rw [hk, Rat.intCast_mul] at e1
    rcases e1 with e1 | e1
    · exact rat_den_int (k := k) (by grind)
    · exact rat_den_int (k := -k) (by rw [Rat.intCast_neg]; grind)
/-- the law's point solves the row -/
theorem solves (hn : NonZ row) {s : Int} {ps : List Int} (a : PtAns (row.ts.map (wholeNum row)) s ps) (h : (wholeB row).fmod s = 0) : rsum row.ts (ps.map fun l => (wholeB row).fdiv s * l) = row.b := by
  obtain ⟨hs, _⟩ := pt_wf hn a
  have hsq := cast_ne (show s ≠ 0 by omega)
  have hBq := cast_ne (show eqBelow row ≠ 0 by have := below_pos row; omega)
  have hb := wholeB_rat row
  have h1 := rsum_dot (f := wholeNum row) (B := (eqBelow row : Rat)) row.ts ps fun t ht => wholeNum_rat ht
  rw [a.sum] at h1
  rw [rsum_point]
  have h2 := congrArg (Int.cast (R := Rat)) (fdiv_mul (Int.dvd_of_fmod_eq_zero h))
  rw [Rat.intCast_mul, hb] at h2
  generalize ((wholeB row).fdiv s : Rat) = q at *
  generalize rsum row.ts ps = r at *
  grind
theorem holds_eq {t b : Rat} (h : t = b) : holds (Str.ofString "=") t b = true := by rw [holds, if_pos rfl, decide_eq_true h]
theorem holds_le {t b : Rat} : holds (Str.ofString "<=") t b = decide (t ≤ b) := by
  rw [holds, if_neg le_ne_eq, decide_eq_true (rfl : Str.ofString "<=" = Str.ofString "<="), Bool.true_and, Bool.eq_iff_iff, Bool.or_eq_true, decide_eq_true_iff, decide_eq_true_iff, decide_eq_true_iff]
  constructor
  · rintro (h | h)
    · exact Rat.le_of_lt h
    · rw [h]; exact Rat.le_refl
  · intro h
    rcases Rat.le_iff_lt_or_eq.mp h with h | h
    · exact .inl h
    · exact .inr h
theorem holds_lt {t b : Rat} : holds (Str.ofString "<") t b = decide (t < b) := by
  rw [holds, if_neg lt_ne_eq, decide_eq_false (show ¬ Str.ofString "<" = Str.ofString "<=" from fun x => le_ne_lt x.symm), Bool.false_and, Bool.or_false]
theorem eq_head {f : Row} (h : NonZ f) (hr : f.rel = Str.ofString "=") (hs : ¬ f.isNeg) : ∃ k ρ ft, f.ts = (k, ρ) :: ft ∧ 0 < ρ.num := by
  obtain ⟨ts, rel, b⟩ := f
  obtain ⟨hz, hn⟩ := h
  cases ts with
  | nil => exact absurd rfl hz
  | cons t ts =>
    have ht := hn t List.mem_cons_self
    have h1 : ¬ t.2.num < 0 := fun x => hs ⟨hr, x⟩
    have : t.2.num ≠ 0 := fun x => ht (Rat.num_eq_zero.mp x)
    exact ⟨t.1, t.2, ts, rfl, by omega⟩
theorem whole_head (h : NonZ row) (hr : row.rel = Str.ofString "=") : ∃ k ρ ft, row.whole.ts = (k, ρ) :: ft ∧ 0 < ρ.num := by
  refine eq_head h.whole (by rw [whole_rel]; exact hr) ?_
  have hp := h.wpos
  have hN : NonZ row.norm := h.scaled (c := Nz.wfF row.ts) (by grind)
  rw [Row.whole]
  split
  · exact fun x => (neg_sign hN hr).mp x (by assumption)
  · assumption
theorem eqFacts {srt : List Int} (h : Bd row n d nb db) (hz : row.ts ≠ []) (hr : row.rel = Str.ofString "=") (hw : row.whole.ts.all (wholeT srt) = true)
    (a1 : n * (db * (d * d * d)) < 1152921504606846976) (a2 : nb * (db * (d * d * d)) < 1152921504606846976) (a3 : n * (d * d * d) < 1152921504606846976) (a4 : nb * (d * d * d) < 1152921504606846976) (a5 : db * (n * (d * d * d)) < 1152921504606846976) : EqFacts srt row row.whole.ts row.whole.b := by
  have hn := h.nonZ hz
  have hW := h.whole hz
  obtain ⟨w1, w2⟩ := h.wn hz
  obtain ⟨c, _, _, ew, _⟩ := whole_form hn
  have hlen : row.whole.ts.length = row.ts.length := by have := congrArg List.length (whole_ids row); rwa [List.length_map, List.length_map] at this
  have hope : row.hopeless srt = true ↔ row.whole.b.den ≠ 1 := by
    rw [Row.hopeless, if_neg hz, hw, whole_rel, hr, beq_self_eq_true, Bool.true_and, Bool.true_and, Bool.not_eq_true', beq_eq_false_iff_ne]
    omega
  refine ⟨fun m hm => lt_abs (w1 m hm) a1, lt_abs w2 a2, hlen, fun t ht => lt_abs (hW.num t ht) a3, fun t ht => lt_cast (hW.den t ht) (by decide), (hW.sum (by decide) (by decide)).prod, lt_abs hW.bnum a4, lt_cast hW.bden a5, whole_head hn hr, fun s ps a => (pt_wf hn a).1, fun s ps a => ?_, fun s ps a hm hd => ?_, fun s ps a hm => ?_⟩
  · rw [hope, Ne, whole_b hn a]
  · exact hm ((whole_b hn a).mp (by omega))
  · have e := solves hn a hm
    refine ⟨by have := (whole_b hn a).mpr hm; omega, by rw [hr]; exact holds_eq e, holds_eq ?_⟩
    rw [ew]
    show rsum (row.ts.map (scaleT c)) _ = row.b * c
    rw [rsum_scale, e]
end
theorem whole_scale {row : Row} (hr : row.rel ≠ Str.ofString "=") : row.whole = row.scaled (wfF row.ts) := by
  rw [Row.whole, if_neg]
  · rfl
  · rintro ⟨x, _⟩
    exact hr x
theorem reach_eq {row : Row} (hn : NonZ row) (hr : row.rel ≠ Str.ofString "=") {ws : List Int} (hd : dot (row.whole.ts.map fun t => t.2.num) ws = 1) (z : Int) :
    ∃ r : Rat, 0 < r ∧ rsum row.ts (ws.map fun l => z * l) = (z : Rat) * r ∧ row.b = row.whole.b * r := by
  have hp := hn.wpos
  have ew := whole_scale hr
  have hpr := prim_whole hn
  have h1 := rsum_dot (f := fun t => t.2.num) (B := 1) row.whole.ts ws fun t ht => by
    have := rat_int (hpr.1 t ht)
    rw [Rat.mul_one]
    exact this.symm
  rw [hd] at h1
  have h2 : rsum row.whole.ts ws = rsum row.ts ws * wfF row.ts := by rw [ew]; exact rsum_scale _ _ _
  rw [h2] at h1
  have h3 : row.whole.b = row.b * wfF row.ts := by rw [ew]; rfl
  rw [h3, rsum_point]
  generalize rsum row.ts ws = r at *
  generalize wfF row.ts = f at *
  have h4 : r * f = 1 := by
    have : ((1 : Int) : Rat) = 1 := rfl
    rw [this] at h1
    grind
  refine ⟨r, ?_, by grind, by grind⟩
  have h5 : r = f⁻¹ := by grind
  rw [h5]
  exact Rat.inv_pos.mpr hp
theorem tightFacts {row : Row} {n d nb db : Nat} {srt : List Int} (h : Bd row n d nb db) (hz : row.ts ≠ []) (hr : row.rel = Str.ofString "<=" ∨ row.rel = Str.ofString "<") (hw : row.whole.ts.all (wholeT srt) = true)
    (a3 : n * (d * d * d) < 1152921504606846976) (a4 : nb * (d * d * d) + 2 < 1152921504606846976) : ∃ fb, row.tight srt = ⟨row.whole.ts, Str.ofString "<=", fb⟩ ∧ TightFacts srt row row.whole.ts fb := by
  have hn := h.nonZ hz
  have hre : row.rel ≠ Str.ofString "=" := by
    rcases hr with e | e <;> rw [e]
    · exact le_ne_eq
    · exact lt_ne_eq
  have hT := h.tight hz srt
  have hW := h.whole hz
  rcases tight_form srt row with ⟨q, _⟩ | ⟨_, z, e, hzz⟩
  · exfalso
    refine q fun x => ?_
    rcases x with x | x | x
    · rw [whole_rel] at x; exact hre x
    · exact hn.whole.1 x
    · rw [hw] at x; exact nomatch x
  · rw [e] at hT
    have hzb := hT.bnum
    dsimp only at hzb
    rw [Rat.num_intCast] at hzb
    have hh : row.hopeless srt = false := by rw [Row.hopeless, if_neg hz, whole_rel, beq_eq_false_iff_ne.mpr hre, Bool.false_and]
    have hz1 : ((z + 1 : Int) : Rat) = (z : Rat) + 1 := by rw [Rat.intCast_add]; rfl
    rw [whole_rel] at hzz
    refine ⟨(z : Rat), e, whole_ids row, prim_whole hn, by rw [Rat.den_intCast]; rfl, fun t ht => lt_abs (hW.num t ht) a3, ?_, fun ws _ hd => ?_, fun ws _ hd => ?_, hh⟩
    · rw [Rat.num_intCast]; omega
    · rw [Rat.num_intCast]
      obtain ⟨r, hr0, e1, e2⟩ := reach_eq hn hre hd z
      rw [e1, e2]
      rcases hr with hr | hr <;> rw [hr] at hzz ⊢
      · rcases hzz with ⟨x, _⟩ | ⟨_, x⟩
        · exact absurd x le_ne_lt
        · rw [holds_le, decide_eq_true_iff, x]
          exact Rat.mul_le_mul_of_nonneg_right (Rat.floor_le _) (Rat.le_of_lt hr0)
      · rw [holds_lt, decide_eq_true_iff]
        refine Rat.mul_lt_mul_of_pos_right ?_ hr0
        rcases hzz with ⟨_, _, x⟩ | ⟨hd1, x⟩
        · rw [x]; grind
        · refine Rat.lt_of_le_of_ne (by rw [x]; exact Rat.floor_le _) fun y => hd1 ⟨rfl, rat_den_int y.symm⟩
    · rw [Rat.num_intCast]
      obtain ⟨r, hr0, e1, e2⟩ := reach_eq hn hre hd (z + 1)
      rw [e1, e2]
      rcases hr with hr | hr <;> rw [hr] at hzz ⊢
      · rcases hzz with ⟨x, _⟩ | ⟨_, x⟩
        · exact absurd x le_ne_lt
        · rw [holds_le, decide_eq_false_iff_not, Rat.not_le, x]
          exact Rat.mul_lt_mul_of_pos_right (Rat.lt_floor_add_one _) hr0
      · rw [holds_lt, decide_eq_false_iff_not, Rat.not_lt]
        refine Rat.mul_le_mul_of_nonneg_right ?_ (Rat.le_of_lt hr0)
        rcases hzz with ⟨_, _, x⟩ | ⟨hd1, x⟩
        · rw [hz1, x]; grind
        · rw [x]; exact Rat.le_of_lt (Rat.lt_floor_add_one _)
theorem truth_holds (rel : Str) (b : Rat) : truth rel b = holds rel 0 b := by
  unfold truth holds
  by_cases h : rel = Str.ofString "="
  · rw [if_pos h, if_pos h]
  · rw [if_neg h, if_neg h, Bool.and_comm]
/-- the law's statements hold of whatever row the draws make -/
theorem lawFacts {srt : List Int} {row : Row} {φ : Rat} (hlen : row.ts.length ≤ 3) (hts : ∀ t ∈ row.ts, t.2 ≠ 0 ∧ -19 ≤ t.2.num ∧ t.2.num ≤ 19 ∧ t.2.den ≤ 5) (hid : ∀ t ∈ row.ts, 0 ≤ t.1 ∧ t.1 < 1000 ∧ t.1.toNat < srt.length)
    (hsrt : ∀ t ∈ row.ts, srt[t.1.toNat]? = some 1 ∨ srt[t.1.toNat]? = some 2) (hb1 : row.b.num.natAbs ≤ 80) (hb2 : row.b.den ≤ 6) (hrel : row.rel = Str.ofString "<=" ∨ row.rel = Str.ofString "<" ∨ row.rel = Str.ofString "=")
    (hf0 : φ ≠ 0) (hf1 : φ.num.natAbs ≤ 12) (hf2 : φ.den ≤ 7) (hf : 0 < φ ∨ row.rel = Str.ofString "=") : LawFacts srt row φ := by
  have hB : Bd row 19 5 80 6 := ⟨hlen, fun t ht => (hts t ht).1, fun t ht => by have := hts t ht; omega, fun t ht => (hts t ht).2.2.2, hb1, hb2⟩
  have hso : PyData.strOk row.rel = true := by rcases hrel with e | e | e <;> rw [e] <;> decide +kernel
  have htr : (row.tight srt).rel = row.rel ∨ (row.tight srt).rel = Str.ofString "<=" := by
    rcases tight_form srt row with ⟨_, e⟩ | ⟨_, z, e, _⟩ <;> rw [e]
    · exact .inl whole_rel
    · exact .inr rfl
  have hto : PyData.strOk (row.tight srt).rel = true := by
    rcases htr with e | e <;> rw [e]
    · exact hso
    · decide +kernel
  have hok : RowOk row := hB.ok (by decide) (by decide) (by decide) (by decide) (by decide) (by decide) (by decide)
  have hor := hB.or
  have htt := tight_tight (srt := srt) hor
  have hsum := hB.sum (by decide) (by decide)
  by_cases hz : row.ts = []
  · have ew := whole_nil hz
    have et : row.tight srt = row := by rw [Row.tight, ew, if_pos (.inr (.inl hz))]
    have em : ∀ {p : Int × Rat → Prop}, ∀ t ∈ row.ts, p t := fun t ht => by rw [hz] at ht; exact nomatch ht
    have hwk : WholeOk srt row.whole := by rw [ew]; exact ⟨hok.len, em, hok.bden⟩
    have hW1 : wfF row.ts = 1 := by rw [wfF, if_pos hz]
    refine ⟨hso, hok, hwk, ⟨.inl hz, em, by rw [hW1]; decide, by rw [hW1]; decide⟩, hsum, by rw [et]; exact hok, by rw [et]; exact hwk, hto, by rw [et]; exact em, htt, em, fun x => absurd hz x, fun _ => ⟨?_, by rw [et]⟩, fun x => absurd hz x, fun x => absurd hz x, fun x => absurd hz x, fun x => absurd hz x⟩
    rw [Row.hopeless, if_pos hz, truth_holds, hz]
    rfl
  · have hn := hB.nonZ hz
    have hW := hB.whole hz
    have hT := hB.tight hz srt
    have hiw : ∀ t ∈ row.whole.ts, 0 ≤ t.1 ∧ t.1 < 1000 ∧ t.1.toNat < srt.length := id_move (whole_ids row) (p := fun k => 0 ≤ k ∧ k < 1000 ∧ k.toNat < srt.length) hid
    have hit : ∀ t ∈ (row.tight srt).ts, 0 ≤ t.1 ∧ t.1 < 1000 ∧ t.1.toNat < srt.length := by rw [tight_ts]; exact hiw
    have hTz : (row.tight srt).ts ≠ [] := by rw [tight_ts]; exact hn.whole.1
    have hTW := hT.whole hTz
    have hitw : ∀ t ∈ (row.tight srt).whole.ts, 0 ≤ t.1 ∧ t.1 < 1000 ∧ t.1.toNat < srt.length := id_move (whole_ids _) (p := fun k => 0 ≤ k ∧ k < 1000 ∧ k.toNat < srt.length) hit
    have hsw : ∀ t ∈ row.whole.ts, srt[t.1.toNat]? = some 1 ∨ srt[t.1.toNat]? = some 2 := id_move (whole_ids row) (p := fun k => srt[k.toNat]? = some 1 ∨ srt[k.toNat]? = some 2) hsrt
    obtain ⟨w1, w2⟩ := hB.wfF hz
    have hS := hB.scaled hf0 hf1 hf2
    have hSz : (row.scaled φ).ts ≠ [] := scale_nil hz
    have hSW := hS.whole hSz
    have hwh : (row.tight srt).ts.all (wholeT srt) = true ↔ row.ts.filter (realT srt) = [] := by
      rw [tight_ts, List.all_eq_true, List.filter_eq_nil_iff]
      have hpr := prim_whole hn
      constructor
      · intro h
        refine id_move (whole_ids row).symm (p := fun k => ¬ decide (srt[k.toNat]? = some 2) = true) fun t ht => ?_
        have := h t ht
        simp only [wholeT, Bool.and_eq_true, decide_eq_true_iff] at this
        rw [this.1]
        decide
      · intro h t ht
        have h1 : ∀ t ∈ row.whole.ts, ¬ decide (srt[t.1.toNat]? = some 2) = true := id_move (whole_ids row) (p := fun k => ¬ decide (srt[k.toNat]? = some 2) = true) h
        have h2 := h1 t ht
        rw [decide_eq_true_iff] at h2
        simp only [wholeT, Bool.and_eq_true, decide_eq_true_iff]
        exact ⟨(hsw t ht).resolve_right h2, hpr.1 t ht⟩
    refine ⟨hso, hok, ⟨Nat.le_trans hW.len (by decide), hiw, lt_cast hW.bden (by decide)⟩, ⟨hor, fun t ht => ?_, lt_abs w1 (by decide), lt_cast w2 (by decide)⟩, hsum,
      hT.ok (by decide) (by decide) (by decide) (by decide) (by decide) (by decide) (by decide), ⟨Nat.le_trans hTW.len (by decide), hitw, lt_cast hTW.bden (by decide)⟩, hto, hit, htt, hid, fun _ => ⟨⟨fun t ht => ?_, ?_, ?_, ?_, hok.len⟩, ?_, ⟨Nat.le_trans hSW.len (by decide), ?_, lt_cast hSW.bden (by decide)⟩, ?_⟩,
      fun x => absurd x hz, fun _ => hwh, fun _ hw => ?_, fun _ hw he => ?_, fun _ hw he => ?_⟩
    · exact lt_abs (mul_bd' (hB.num t ht) (hB.den t ht) w1 w2).1 (by decide)
    · refine ⟨mulOk_left (hok.num t ht), mulOk_left ⟨by have := den_pos t.2; omega, hok.den t ht⟩, ?_⟩
      rw [← Int.natCast_mul]
      exact lt_cast (Nat.mul_le_mul (hB.den t ht) hf2) (by decide)
    · exact mulOk_left hok.bnum
    · exact mulOk_left ⟨by have := den_pos row.b; omega, hok.bden⟩
    · rw [← Int.natCast_mul]
      exact lt_cast (Nat.mul_le_mul hb2 hf2) (by decide)
    · exact hS.ok (by decide) (by decide) (by decide) (by decide) (by decide) (by decide) (by decide)
    · exact id_move (whole_ids _) (p := fun k => 0 ≤ k ∧ k < 1000 ∧ k.toNat < srt.length) (fun t ht => by
        obtain ⟨u, hu, rfl⟩ := List.mem_map.mp ht
        exact hid u hu)
    · exact tight_scaled hn hf0 hf
    · rw [tight_ts] at hw
      refine ⟨by rw [Row.tight, if_pos (.inr (.inr hw))], by rw [Row.hopeless, if_neg hz, hw, Bool.false_and, Bool.and_false]⟩
    · rw [tight_ts] at hw
      refine ⟨row.whole.ts, row.whole.b, ?_, eqFacts hB hz he hw (by decide) (by decide) (by decide) (by decide) (by decide)⟩
      have h1 := whole_rel (row := row)
      rw [he] at h1
      rw [Row.tight, if_pos (.inl h1), ← h1]
    · rw [tight_ts] at hw
      obtain ⟨fb, h1, h2⟩ := tightFacts hB hz (by rcases hrel with e | e | e; exact .inl e; exact .inr e; exact absurd e he) hw (by decide) (by decide)
      exact ⟨_, fb, h1, h2⟩
end
section
noncomputable def lawBound : List Stmt := lawRec.body.drop 5
structure Draws (srt : List Int) (tt : List (Int × Rat)) (i : Nat) : Prop where
  sorts : ∀ j : Nat, 3 ≤ j → ∀ x, srt[j]? = some x → x = 1 ∨ x = 2
  ts : ∀ t ∈ tt, 3 ≤ t.1 ∧ t.1 < 3 + (i : Int) ∧ t.2 ≠ 0 ∧ -19 ≤ t.2.num ∧ t.2.num ≤ 19 ∧ t.2.den ≤ 5
  len : tt.length ≤ i
theorem bank_in {w : World} {b : BankS} {srt : List Int} {i : Nat} {kl all : Led} (G : BankG w b srt i kl) (hs : ∀ p ∈ bankLed w b, p ∈ all) : BankIn w all (.ref b.B) srt :=
  .mk (hs _ List.mem_cons_self) (hs _ (List.mem_cons_of_mem _ List.mem_cons_self)) (hs (b.ts, listOf b.vts.toArray b.kts) (by repeat (first | exact List.mem_cons_self | refine List.mem_cons_of_mem _ ?_))) G.sts
theorem draws_law {srt : List Int} {tt : List (Int × Rat)} {i : Nat} {rel : Str} {x y : Int} {φ : Rat} (h : Draws srt tt i) (hl : srt.length = 3 + i) (hi : i ≤ 3) (hx0 : -3 ≤ x) (hx1 : x ≤ 77) (hy0 : 0 < y) (hy1 : y ≤ 6)
    (hrel : rel = Str.ofString "<=" ∨ rel = Str.ofString "<" ∨ rel = Str.ofString "=") (hf0 : φ ≠ 0) (hf1 : φ.num.natAbs ≤ 12) (hf2 : φ.den ≤ 7) (hf : 0 < φ ∨ rel = Str.ofString "=") : LawFacts srt ⟨tt, rel, Rat.divInt x y⟩ φ := by
  obtain ⟨l1, l2, _⟩ := low_facts (x := x) hy0
  refine lawFacts (row := ⟨tt, rel, Rat.divInt x y⟩) (Nat.le_trans h.len hi) (fun t ht => ?_) (fun t ht => ?_) (fun t ht => ?_) (by dsimp only; omega) (by dsimp only; omega) hrel hf0 hf1 hf2 hf
  · obtain ⟨_, _, h3, h4, h5, h6⟩ := h.ts t ht
    exact ⟨h3, h4, h5, h6⟩
  · obtain ⟨h1, h2, _⟩ := h.ts t ht
    omega
  · obtain ⟨h1, h2, _⟩ := h.ts t ht
    have h3 : t.1.toNat < srt.length := by omega
    have h4 := List.getElem?_eq_getElem h3
    rcases h.sorts t.1.toNat (by omega) _ h4 with e | e
    · rw [e] at h4; exact .inl h4
    · rw [e] at h4; exact .inr h4
theorem fac_pos {p q : Int} (hp0 : 0 < p) (hp1 : p ≤ 12) (hq0 : 0 < q) (hq1 : q ≤ 7) : 0 < Rat.divInt p q ∧ (Rat.divInt p q).num.natAbs ≤ 12 ∧ (Rat.divInt p q).den ≤ 7 := by
  obtain ⟨l1, l2, _⟩ := low_facts (x := p) hq0
  refine ⟨?_, by omega, by omega⟩
  rw [Rat.divInt_eq_div, Rat.div_def]
  exact Rat.mul_pos (Rat.intCast_pos.mpr hp0) (Rat.inv_pos.mpr (Rat.intCast_pos.mpr hq0))
def RelOk (r : Str) : Prop := r = Str.ofString "<=" ∨ r = Str.ofString "<" ∨ r = Str.ofString "="
theorem law_facts1 {srt : List Int} {tt : List (Int × Rat)} {i : Nat} {rel : Str} {a b c d : Int} (h : Draws srt tt i) (hl : srt.length = 3 + i) (hi : i ≤ 3) (ha0 : 0 ≤ a) (ha1 : a < 81) (hb0 : 0 ≤ b) (hb1 : b < 6)
    (hc0 : 0 ≤ c) (hc1 : c < 12) (hd0 : 0 ≤ d) (hd1 : d < 7) (hrel : RelOk rel) : LawFacts srt ⟨tt, rel, Rat.divInt (a - 3) (1 + b)⟩ (Rat.divInt (1 + c) (1 + d)) := by
  obtain ⟨h1, h2, h3⟩ := fac_pos (p := 1 + c) (q := 1 + d) (by omega) (by omega) (by omega) (by omega)
  exact draws_law h hl hi (by omega) (by omega) (by omega) (by omega) hrel (by grind) h2 h3 (.inl h1)
theorem law_facts2 {srt : List Int} {tt : List (Int × Rat)} {i : Nat} {rel : Str} {a b c d : Int} (h : Draws srt tt i) (hl : srt.length = 3 + i) (hi : i ≤ 3) (ha0 : 0 ≤ a) (ha1 : a < 81) (hb0 : 0 ≤ b) (hb1 : b < 6)
    (hc0 : 0 ≤ c) (hc1 : c < 12) (hd0 : 0 ≤ d) (hd1 : d < 7) (hrel : (rel == Str.ofString "=") = true) : LawFacts srt ⟨tt, rel, Rat.divInt (a - 3) (1 + b)⟩ (-Rat.divInt (1 + c) (1 + d)) := by
  obtain ⟨h1, h2, h3⟩ := fac_pos (p := 1 + c) (q := 1 + d) (by omega) (by omega) (by omega) (by omega)
  exact draws_law h hl hi (by omega) (by omega) (by omega) (by omega) (.inr (.inr (eq_of_beq hrel))) (by grind) (by rw [Rat.neg_num, Int.natAbs_neg]; exact h2) (by rw [Rat.neg_den]; exact h3) (.inr (eq_of_beq hrel))
theorem nz_rel {prog : Program} {w : World} {A : Around} {E : Value → Shared → Prop} {s : Shared} {h₀ : Heap} {L : Addr} {news : Led} {value slice : Expr} {l : Addr} {kk : Nat} {k : Int} {u t0 t1 t2 : Tok} {Q : Value → Shared → Prop} (N : News h₀ L s.heap news) (hm : (l, listOf [.str (Str.ofString "<=") t0, .str (Str.ofString "<") t1, .str (Str.ofString "=") t2].toArray kk) ∈ news) (h0 : 0 ≤ k) (h1 : k < 3)
    (h : ∀ rel t, RelOk rel → Q (.str rel t) s)
    (hs : ∀ k u, subscripted slice false (.ref l) (.int k u) = operate [.ref l, .int k u] (getItem (.ref l) (.int k u)) := by intros; with_unfolding_all rfl) (hg : ∀ r, letTemporaryGo value (.ref l) r = pure () := by intro _; with_unfolding_all rfl) :
    wpAny (model prog w) A (subscriptTail value slice (.ref l) (.int k u)) Q E s := by
  rcases (show k = 0 ∨ k = 1 ∨ k = 2 by omega) with rfl | rfl | rfl
  · exact nz_itemL N hm (by decide) (by decide) rfl (h _ _ (.inl rfl)) (hs _ _) hg
  · exact nz_itemL N hm (by decide) (by decide) rfl (h _ _ (.inr (.inl rfl))) (hs _ _) hg
  · exact nz_itemL N hm (by decide) (by decide) rfl (h _ _ (.inr (.inr rfl))) (hs _ _) hg
theorem neg_tup {a : Addr} {ρ : Rat} {t u : Tok} {all : Led} (h : (a, tupO [.int (0 - ρ.num) t, .int (ρ.den : Int) u]) ∈ all) : (a, tupO [.int (-ρ).num t, .int ((-ρ).den : Int) u]) ∈ all := by
  rw [Rat.neg_num, Rat.neg_den, ← Int.zero_sub]
  exact h
set_option maxHeartbeats 8000000 in
theorem law_bound {w : World} {mean : ExcName → Option Value} {mg mb : Str → Option Value} {news : Led} {fa L : Addr} {ccd : Value} {base h₀ : Heap} {m : Str → Option Value} {s : Shared} {Q : Flow → Shared → Prop} {E : Value → Shared → Prop}
    {P Tp C Bk : Nat} {oT oC : Obj} {vs ps : List Value} {kk kP i : Nat} {sp : Int} {u : Tok} {srt : List Int} {tt : List (Int × Rat)} {rest : Led}
    (B : Below callerA base [] h₀) (F : Fr h₀ L s.heap m) (X : (pre.heap_1_39 w.params).In h₀) (N : News h₀ L s.heap ((P, listOf ps.toArray kP) :: (Tp, oT) :: rest)) (T : Top pre.view_1_40 (looseW pre.view_1_40 []) mean mg mb h₀)
    (m1 : m (Str.ofString "tape") = some (.ref Tp)) (m2 : m (Str.ofString "parts") = some (.ref P)) (hTP : @LT.lt Nat _ Tp P) (qT : ∀ p ∈ rest, p.1 ≠ Tp)
    (hC : (C, listOf vs.toArray kk) ∈ rest) (hc : (L + 1, oC) ∈ rest) (dC : oC.data = .cell (some (.ref Bk))) (hB : BankIn w rest (.ref Bk) srt) (hv : All2 (TermIn rest) ps tt) (hD : Draws srt tt i) (hls : srt.length = 3 + i) (hi : i ≤ 3)
    (hO : TapeO PySem.Challenge.rw_nz0148_01.row.prog w oT C sp u) (hsp : SpOk 10 sp) (hI : ∀ v ∈ vs, ∃ k t, v = Value.int k t) (hl : vs.length ≤ 63)
    (hret : ∀ h' tk' m' nx, Fr h₀ L h' m' → News h₀ L h' nx → Q (.ret (.bool true)) { s with heap := h', toks := tk' }) :
    wpAny (model PySem.Challenge.rw_nz0148_01.row.prog w) (callerA.deeper (envOfC lawRec.name lawRec.scope L fa ccd)) (execs lawBound (envOfC lawRec.name lawRec.scope L fa ccd)) Q E s := by
  revert X
  k_fill
  intro X
  dsimp only [lawBound, lawRec, recGet, List.drop_succ_cons, List.drop_zero]
  have F0 := ksw_fr (ps := [(Str.ofString "tape", .ref Tp), (Str.ofString "parts", .ref P)]) (m₀ := m) (m₁ := m) (stored := []) (List.forall_mem_cons.mpr ⟨m1, List.forall_mem_cons.mpr ⟨m2, List.forall_mem_nil _⟩⟩) (fun _ _ _ => rfl) F
  dsimp only [kstB] at F0
  clear F
  have hvl : ps.length ≤ 1000 := by rw [hv.length]; have := hD.len; omega
  (repeat' (first | (k_unfold; (try dsimp only)) | (k_end; wrow_close) | ((with_reducible show wpAny _ _ (execs (Stmt.Assign [Expr.Name (Str.ofString "found") _] _ _ :: _) _) _ _ _); refine nz_stop ?_) | ((with_reducible show wpAny _ _ (subscriptTail _ _ (Value.ref _) (Value.int _ _)) _ _ _); k_dflt (refine nz_rel (by k_asm) (by k_mem) (by with_reducible assumption) (by with_reducible assumption) ?_); intro rel tr hrel; (try dsimp only)) | ((with_reducible show wpAny _ _ (call (Value.ref _) _) _ _ _); first | ((with_reducible show wpAny _ _ (call (Value.ref 261) _) _ _ _); walk_at "nz:val"; (· k_dflt (apply sort_spec <;> walk_at "nz:p")); walk_at "nz:intx2") | ((with_reducible show wpAny _ _ (call (Value.ref 605) _) _ _ _); k_dflt (apply use_next; walk_at "nz:asm"; (· k_mem); (with_reducible assumption); (· k_updF); (iterate 3 (with_reducible assumption)); (first | with_reducible assumption | exact Nat.le_of_ble_eq_true rfl); (iterate 2 decide); (intro oo; (try dsimp only); exact ⟨by k_mem, by k_mem⟩)); walk_at "nz:room"; intro o9 v9 t9 u9 sp9 h9 tk9 F9 N9 hO9 hv9 hw9 hs9; (try dsimp only at N9); (try dsimp only); (try walk_at "nz:fold")) | ((with_reducible show wpAny _ _ (call (Value.ref 612) _) _ _ _); walk_at "nz:rt"; (· k_dflt (apply low_spec <;> omega)); walk_at "nz:rt2")) | walk1 | (dsimp only; walk1) | (leave1; (try dsimp only)) | fail "no step"))
  all_goals (unfold NzStop; (rename Fr _ _ _ _ => F9); (rename News _ _ _ _ => N9); (rename RelOk _ => hrel))
  all_goals first
    | exact law_tail (row := ⟨tt, _, Rat.divInt _ _⟩) (φ := Rat.divInt _ _) B F9 X N9 T rfl rfl rfl (by k_mem) dC (hB.mono (by repeat' first | with_reducible exact sub_refl | with_reducible refine sub_tail ?_)) (RowIn.mk (by k_mem) (.mk (by k_mem) (hv.imp fun _ _ k => k.mono (by repeat' first | with_reducible exact sub_refl | with_reducible refine sub_tail ?_))) (RtIn.mk (ρ := Rat.divInt _ _) (by k_mem))) (by k_mem) (hv.imp fun _ _ k => k.mono (by repeat' first | with_reducible exact sub_refl | with_reducible refine sub_tail ?_)) (by k_mem)
        (law_facts1 hD hls hi (by with_reducible assumption) (by with_reducible assumption) (by with_reducible assumption) (by with_reducible assumption) (by with_reducible assumption) (by with_reducible assumption) (by with_reducible assumption) (by with_reducible assumption) hrel) fun h' tk' m' nx F N => hret _ _ _ _ F N
    | exact law_tail (row := ⟨tt, _, Rat.divInt _ _⟩) (φ := -Rat.divInt _ _) B F9 X N9 T rfl rfl rfl (by k_mem) dC (hB.mono (by repeat' first | with_reducible exact sub_refl | with_reducible refine sub_tail ?_)) (RowIn.mk (by k_mem) (.mk (by k_mem) (hv.imp fun _ _ k => k.mono (by repeat' first | with_reducible exact sub_refl | with_reducible refine sub_tail ?_))) (RtIn.mk (ρ := Rat.divInt _ _) (by k_mem))) (by k_mem) (hv.imp fun _ _ k => k.mono (by repeat' first | with_reducible exact sub_refl | with_reducible refine sub_tail ?_)) (neg_tup (ρ := Rat.divInt _ _) (by k_mem))
        (law_facts2 hD hls hi (by with_reducible assumption) (by with_reducible assumption) (by with_reducible assumption) (by with_reducible assumption) (by with_reducible assumption) (by with_reducible assumption) (by with_reducible assumption) (by with_reducible assumption) (by with_reducible assumption)) fun h' tk' m' nx F N => hret _ _ _ _ F N
end
section
noncomputable def lawLoop : List Stmt := lawRec.body.drop 4
structure MidS where
  b : BankS
  oT : Obj
  u : Tok
  sp : Int
  srt : List Int
  kP : Nat
  vs : List Value
  ts : List (Int × Rat)
  tl : Led
def NzMark : Prop := True
theorem SpOk.le {n m : Nat} {sp : Int} (h : SpOk n sp) (k : n ≤ m) : SpOk m sp := ⟨h.1, Int.le_trans h.2 (Int.ofNat_le.mpr k)⟩
def SoEnd (h : Heap) (g : Array GenState) (d : Drawn) (o : OsState) (v : Value) (s : Shared) : Prop := ∃ so t tk, v = .int so t ∧ (so = 1 ∨ so = 2) ∧ s = ⟨h, g, d, tk, o⟩
theorem so_any {prog : Program} {w : World} {A : Around} {t : Sem Value} {Q : Value → Shared → Prop} {E : Value → Shared → Prop} {h : Heap} {g : Array GenState} {d : Drawn} {T : Nat} {o : OsState} (W : wpAny (model prog w) A t (SoEnd h g d o) E ⟨h, g, d, T, o⟩) (H : ∀ so t tk, (so = 1 ∨ so = 2) → Q (.int so t) ⟨h, g, d, tk, o⟩) :
    wpAny (model prog w) A t Q E ⟨h, g, d, T, o⟩ := wpAny_mono W (fun v s' ⟨so, t, tk, e, hs, e'⟩ => by subst e; subst e'; exact H so t tk hs) fun _ _ e => e
theorem draws_nil : Draws [0, 0, 0] [] 0 := ⟨fun j hj x hx => (by rw [List.getElem?_eq_none (show ([0, 0, 0] : List Int).length ≤ j from hj)] at hx; cases hx), List.forall_mem_nil _, Nat.le_refl _⟩
theorem bankLed_B (w : World) (b : BankS) : (b.B, instObj 549 b.d) ∈ bankLed w b := List.mem_cons_self
theorem bankLed_d (w : World) (b : BankS) : (b.d, dictOf [{ hash := PyData.keyHash w.params (Str.ofString "sort_names"), key := .str (Str.ofString "sort_names") b.t0, val := .ref b.sn }, { hash := PyData.keyHash w.params (Str.ofString "sort_widths"), key := .str (Str.ofString "sort_widths") b.t1, val := .ref b.sw }, { hash := PyData.keyHash w.params (Str.ofString "fun_names"), key := .str (Str.ofString "fun_names") b.t2, val := .ref b.fn }, { hash := PyData.keyHash w.params (Str.ofString "fun_args"), key := .str (Str.ofString "fun_args") b.t3, val := .ref b.fa }, { hash := PyData.keyHash w.params (Str.ofString "fun_results"), key := .str (Str.ofString "fun_results") b.t4, val := .ref b.fr }, { hash := PyData.keyHash w.params (Str.ofString "fresh_count"), key := .str (Str.ofString "fresh_count") b.t5, val := b.v5 }, { hash := PyData.keyHash w.params (Str.ofString "term_ops"), key := .str (Str.ofString "term_ops") b.t6, val := .ref b.to }, { hash := PyData.keyHash w.params (Str.ofString "term_args"), key := .str (Str.ofString "term_args") b.t7, val := .ref b.ta }, { hash := PyData.keyHash w.params (Str.ofString "term_sorts"), key := .str (Str.ofString "term_sorts") b.t8, val := .ref b.ts }, { hash := PyData.keyHash w.params (Str.ofString "term_datas"), key := .str (Str.ofString "term_datas") b.t9, val := .ref b.td }, { hash := PyData.keyHash w.params (Str.ofString "numbers"), key := .str (Str.ofString "numbers") b.t10, val := .ref b.nu }, { hash := PyData.keyHash w.params (Str.ofString "true_number"), key := .str (Str.ofString "true_number") b.t11, val := b.v11 }, { hash := PyData.keyHash w.params (Str.ofString "false_number"), key := .str (Str.ofString "false_number") b.t12, val := b.v12 }] b.n) ∈ bankLed w b := List.mem_cons_of_mem _ List.mem_cons_self
theorem led_addr {w : World} {b : BankS} {p : Addr × Obj} (h : p ∈ bankLed w b) : p.1 ∈ b.addrs := List.mem_map_of_mem (f := fun p : Addr × Obj => p.1) h
theorem addr_led {w : World} {b : BankS} {a : Nat} (h : a ∈ b.addrs) : ∃ q ∈ bankLed w b, q.1 = a := List.mem_map.mp (show a ∈ (bankLed w b).map (fun p : Addr × Obj => p.1) from h)
theorem led_move {w : World} {b b1 : BankS} (e : b1.addrs = b.addrs) {K : Nat → Prop} (h : ∀ p ∈ bankLed w b, K p.1) : ∀ p ∈ bankLed w b1, K p.1 := fun p hp => by
  obtain ⟨q, hq, e2⟩ := addr_led (w := w) (b := b) (e ▸ led_addr hp)
  rw [← e2]
  exact h q hq
theorem BankG.more {w : World} {b : BankS} {srt : List Int} {i : Nat} {kl kl' : Led} (G : BankG w b srt i kl) (hs : ∀ p ∈ kl, p ∈ kl') (off : ∀ p ∈ kl', p.1 ∉ b.addrs) : BankG w b srt i kl' := by
  obtain ⟨xs, h1, h2, h3, h4⟩ := G.dict
  exact ⟨G.ord, off, G.lfn, G.lfa, G.lfr, G.lto, G.lta, G.ltd, G.lsrt, G.sts, G.lo, xs, h1, h2.mono hs, h3, h4⟩
theorem draws_skip {srt : List Int} {tt : List (Int × Rat)} {i : Nat} {so : Int} (h : Draws srt tt i) (hl : srt.length = 3 + i) (hs : so = 1 ∨ so = 2) : Draws (srt ++ [so]) tt (i + 1) := by
  refine ⟨fun j hj x hx => ?_, fun t ht => ?_, Nat.le_succ_of_le h.len⟩
  · rcases Nat.lt_or_ge j srt.length with hlt | hge
    · rw [List.getElem?_append_left hlt] at hx
      exact h.sorts j hj x hx
    · rw [List.getElem?_append_right hge] at hx
      have hz : j - srt.length = 0 := by
        rcases Nat.eq_zero_or_pos (j - srt.length) with hz | hz
        · exact hz
        · rw [List.getElem?_eq_none (show [so].length ≤ j - srt.length from hz)] at hx
          cases hx
      rw [hz] at hx
      have e : so = x := by simpa using hx
      rwa [← e]
  · obtain ⟨h1, h2, h3⟩ := h.ts t ht
    exact ⟨h1, by omega, h3⟩
theorem draws_snoc {srt : List Int} {tt : List (Int × Rat)} {i : Nat} {so x y : Int} (h : Draws srt tt i) (hl : srt.length = 3 + i) (hs : so = 1 ∨ so = 2) (hx : x ≠ 0) (hx1 : -19 ≤ x ∧ x ≤ 19) (hy : 0 < y ∧ y ≤ 5) : Draws (srt ++ [so]) (tt ++ [(3 + (i : Int), Rat.divInt x y)]) (i + 1) := by
  have h0 := draws_skip h hl hs
  refine ⟨h0.sorts, fun t ht => ?_, by rw [List.length_append]; exact Nat.succ_le_succ h.len⟩
  rcases List.mem_append.mp ht with ht | ht
  · exact h0.ts t ht
  · rw [List.mem_singleton.mp ht]
    obtain ⟨l1, l2, l3⟩ := low_facts (x := x) hy.1
    refine ⟨by dsimp only; omega, by dsimp only; omega, l3 hx, by dsimp only; omega, by dsimp only; omega, by dsimp only; omega⟩
theorem lt_off {w : World} {b : BankS} {D : Nat} (h : AllLt D (bankLed w b)) : D ∉ b.addrs := fun hm => by
  obtain ⟨q, hq, e⟩ := addr_led (w := w) hm
  have := ktn_ltOf h q hq
  rw [e] at this
  exact Nat.lt_irrefl _ this
theorem range_small {n : Int} (h0 : 0 ≤ n) (h1 : n < 4) : Builtin.Range.small 0 n 1 = true := by
  obtain rfl | rfl | rfl | rfl : n = 0 ∨ n = 1 ∨ n = 2 ∨ n = 3 := by omega
  all_goals rfl
theorem range_size {n : Int} (h0 : 0 ≤ n) (h1 : n < 4) : Builtin.Range.rangeSize 0 n 1 = (n.toNat : Int) := by
  obtain rfl | rfl | rfl | rfl : n = 0 ∨ n = 1 ∨ n = 2 ∨ n = 3 := by omega
  all_goals rfl
set_option maxHeartbeats 8000000 in
theorem law_loop {w : World} {mean : ExcName → Option Value} {mg mb : Str → Option Value} {news : Led} {fa L : Addr} {ccd : Value} {base h₀ : Heap} {m : Str → Option Value} {s : Shared} {Q : Flow → Shared → Prop} {E : Value → Shared → Prop}
    {P Tp C : Nat} {oT oC : Obj} {vs : List Value} {kk kP : Nat} {u tm : Tok} {b : BankS} {tl' : Led} {many : Int} {mx : Bool}
    (B : Below callerA base [] h₀) (F : Fr h₀ L s.heap m) (X : (pre.heap_1_39 w.params).In h₀) (N : News h₀ L s.heap ((P, listOf [].toArray kP) :: (Tp, oT) :: (bankLed w b ++ (tl' ++ [(C, listOf vs.toArray kk), (L + 1, oC)])))) (T : Top pre.view_1_40 (looseW pre.view_1_40 []) mean mg mb h₀)
    (m1 : m (Str.ofString "tape") = some (.ref Tp)) (m2 : m (Str.ofString "parts") = some (.ref P)) (m3 : m (Str.ofString "many") = some (.int many tm)) (m4 : m (Str.ofString "is_mixed") = some (.bool mx))
    (hP : ∀ p ∈ (Tp, oT) :: (bankLed w b ++ (tl' ++ [(C, listOf vs.toArray kk), (L + 1, oC)])), p.1 < P) (qT : ∀ p ∈ bankLed w b ++ (tl' ++ [(C, listOf vs.toArray kk), (L + 1, oC)]), p.1 ≠ Tp) (qb : ∀ p ∈ tl' ++ [(C, listOf vs.toArray kk), (L + 1, oC)], p.1 ∉ b.addrs)
    (G : BankG w b [0, 0, 0] 0 tl') (dC : oC.data = .cell (some (.ref b.B))) {sp0 : Int} (hO : TapeO PySem.Challenge.rw_nz0148_01.row.prog w oT C sp0 u) (hsp0 : SpOk 2 sp0) (hI : ∀ v ∈ vs, ∃ k t, v = Value.int k t) (hl : vs.length ≤ 63) (hm0 : 0 ≤ many) (hm1 : many < 4)
    (hE : PassesOwn (model PySem.Challenge.rw_nz0148_01.row.prog w) (callerA.deeper (envOfC lawRec.name lawRec.scope L fa ccd)) (envOfC lawRec.name lawRec.scope L fa ccd) E)
    (hret : ∀ h' tk' m' nx, Fr h₀ L h' m' → News h₀ L h' nx → Q (.ret (.bool true)) { s with heap := h', toks := tk' }) :
    wpAny (model PySem.Challenge.rw_nz0148_01.row.prog w) (callerA.deeper (envOfC lawRec.name lawRec.scope L fa ccd)) (execs lawLoop (envOfC lawRec.name lawRec.scope L fa ccd)) Q E s := by
  revert X
  k_fill
  intro X
  dsimp only [lawLoop, lawRec, recGet, List.drop_succ_cons, List.drop_zero]
  have F0 := ksw_fr (ps := [(Str.ofString "tape", .ref Tp), (Str.ofString "parts", .ref P), (Str.ofString "many", .int many tm), (Str.ofString "is_mixed", .bool mx)]) (m₀ := m) (m₁ := m) (stored := []) (List.forall_mem_cons.mpr ⟨m1, List.forall_mem_cons.mpr ⟨m2, List.forall_mem_cons.mpr ⟨m3, List.forall_mem_cons.mpr ⟨m4, List.forall_mem_nil _⟩⟩⟩⟩) (fun _ _ _ => rfl) F
  dsimp only [kstB] at F0
  clear F
  dsimp only [lawRec, recGet] at hE
  (repeat' (first | (k_unfold; (try dsimp only)) | (k_end; wrow_close) | ((with_reducible show wpAny _ _ (execs (Stmt.Assign [Expr.Name (Str.ofString "bound") _] _ _ :: _) _) _ _ _); refine nz_stop ?_) | ((with_reducible show wpAny _ _ (exec (.For _ _ _ _ _) _) _ _ _); refine nz_stop ?_) | ((with_reducible show wpAny _ _ (eval (.IfExp _ _ _ _) _) _ _ _); (with_reducible rename NzMark => hm9); clear hm9; refine nz_stop ?_) | ((with_reducible show wpAny _ _ (call (Value.ref _) _) _ _ _); first | ((with_reducible show wpAny _ _ (call (Value.ref 212) _) _ _ _); refine nz_stop ?_) | ((with_reducible show wpAny _ _ (call (Value.ref 605) _) _ _ _); k_dflt (apply use_next; walk_at "nz:asm"; (· k_mem); (with_reducible assumption); (· k_updF); (iterate 3 (with_reducible assumption)); (first | with_reducible assumption | exact Nat.le_of_ble_eq_true rfl); (iterate 2 decide); (intro oo; (try dsimp only); exact ⟨by k_mem, by k_mem⟩)); walk_at "nz:room"; intro o9 v9 t9 u9 sp9 h9 tk9 F9 N9 hO9 hv9 hw9 hs9; (try dsimp only at N9); (try dsimp only); (try walk_at "nz:fold")) | ((with_reducible show wpAny _ _ (call (Value.ref 612) _) _ _ _); walk_at "nz:rt"; (· k_dflt (apply low_spec <;> omega)); walk_at "nz:rt2")) | walk1 | (dsimp only; walk1) | (leave1; (try dsimp only)) | fail "no step"))
  unfold NzStop
  (rename Fr _ _ _ _ => F0)
  with_unfolding_all refine' For_turns (hE := hE) F0 ?_
  clear hE
  (repeat' (first | (k_unfold; (try dsimp only)) | (k_end; wrow_close) | ((with_reducible show wpAny _ _ (execs (Stmt.Assign [Expr.Name (Str.ofString "bound") _] _ _ :: _) _) _ _ _); refine nz_stop ?_) | ((with_reducible show wpAny _ _ (exec (.For _ _ _ _ _) _) _ _ _); refine nz_stop ?_) | ((with_reducible show wpAny _ _ (eval (.IfExp _ _ _ _) _) _ _ _); (with_reducible rename NzMark => hm9); clear hm9; refine nz_stop ?_) | ((with_reducible show wpAny _ _ (call (Value.ref _) _) _ _ _); first | ((with_reducible show wpAny _ _ (call (Value.ref 212) _) _ _ _); refine nz_stop ?_) | ((with_reducible show wpAny _ _ (call (Value.ref 605) _) _ _ _); k_dflt (apply use_next; walk_at "nz:asm"; (· k_mem); (with_reducible assumption); (· k_updF); (iterate 3 (with_reducible assumption)); (first | with_reducible assumption | exact Nat.le_of_ble_eq_true rfl); (iterate 2 decide); (intro oo; (try dsimp only); exact ⟨by k_mem, by k_mem⟩)); walk_at "nz:room"; intro o9 v9 t9 u9 sp9 h9 tk9 F9 N9 hO9 hv9 hw9 hs9; (try dsimp only at N9); (try dsimp only); (try walk_at "nz:fold")) | ((with_reducible show wpAny _ _ (call (Value.ref 612) _) _ _ _); walk_at "nz:rt"; (· k_dflt (apply low_spec <;> omega)); walk_at "nz:rt2")) | walk1 | (dsimp only; walk1) | (leave1; (try dsimp only)) | fail "no step"))
  (rename Fr _ _ _ _ => F1); (rename News _ _ _ _ => N1); (rename IsRange _ _ _ _ _ _ _ _ => hrg)
  refine for_range2 (n := many.toNat) hrg (range_small hm0 hm1) (range_size hm0 hm1) F1 N1 (fun c : MidS => (P, listOf c.vs.toArray c.kP) :: (Tp, c.oT) :: (bankLed w c.b ++ (c.tl ++ (tl' ++ [(C, listOf vs.toArray kk), (L + 1, oC)])))) (fun c => []) [Str.ofString "lap", Str.ofString "top", Str.ofString "bottom", Str.ofString "sort", Str.ofString "t"]
    (fun i c => c.b.addrs = b.addrs ∧ c.b.B = b.B ∧ BankG w c.b c.srt i (c.tl ++ tl') ∧ TapeO PySem.Challenge.rw_nz0148_01.row.prog w c.oT C c.sp c.u ∧ SpOk (2 + 2 * i) c.sp ∧ All2 (TermIn c.tl) c.vs c.ts ∧ Draws c.srt c.ts i ∧ (∀ p ∈ c.tl, P < p.1))
    ⟨b, oT, u, sp0, [0, 0, 0], kP, [], [], []⟩ (by repeat' first | exact sub_refl | with_reducible assumption | exact sub_nil | refine sub_cons (by k_mem) ?_ | refine sub_tail ?_ | exact sub_left | refine sub_app ?_ | refine sub_both ?_ ?_) (List.forall_mem_nil _) ⟨rfl, rfl, G, hO, hsp0, .nil, draws_nil, List.forall_mem_nil _⟩ ?_ ?_
  · intro i v c uu h tk own wr hi hv hR hw hown hwo F2 N2
    clear F1 N1 hrg
    obtain ⟨b1, oT1, u1, sp1, srt1, kP1, vs1, ts1, tl1⟩ := c
    obtain ⟨tv, rfl⟩ := hv
    obtain ⟨ha1, ha2, G1, hO1, hsp, hv1, hd1, hl1⟩ := hR
    dsimp only [kstB] at F2 N2 hw ha1 ha2 G1 hO1 hsp hv1 hd1 hl1
    have hTP : @LT.lt Nat _ Tp P := hP (Tp, oT) List.mem_cons_self
    have r1 : ∀ p ∈ own, p.1 ≠ Tp := off_of hw hown (a := Tp) (by k_mem)
    have r2 : ∀ p ∈ bankLed w b1 ++ (tl1 ++ (tl' ++ [(C, listOf vs.toArray kk), (L + 1, oC)])), p.1 ≠ Tp := fun p hp => by
      rcases List.mem_append.mp hp with hp | hp
      · exact led_move (K := fun a => a ≠ Tp) ha1 (fun q hq => qT q (List.mem_append_left _ hq)) p hp
      rcases List.mem_append.mp hp with hp | hp
      · exact Nat.ne_of_gt (Nat.lt_trans hTP (hl1 p hp))
      · exact qT p (List.mem_append_right _ hp)
    have hbm : (b.B, instObj 549 b1.d) ∈ bankLed w b1 ++ (tl1 ++ (tl' ++ [(C, listOf vs.toArray kk), (L + 1, oC)])) := by rw [← ha2]; exact List.mem_append_left _ (bankLed_B w b1)
    have hbd := List.mem_append_left (tl1 ++ (tl' ++ [(C, listOf vs.toArray kk), (L + 1, oC)])) (bankLed_d w b1)
    have hoff : ∀ o, ∀ p ∈ own ++ (P, listOf vs1.toArray kP1) :: (Tp, o) :: (tl1 ++ (tl' ++ [(C, listOf vs.toArray kk), (L + 1, oC)])), p.1 ∉ b1.addrs := fun o p hp => by
      rw [ha1]
      rcases List.mem_append.mp hp with hp | hp
      · intro hm
        obtain ⟨q, hq, e⟩ := addr_led (w := w) (b := b1) (ha1 ▸ hm)
        exact hw q (List.mem_cons_of_mem _ (List.mem_cons_of_mem _ (List.mem_append_left _ hq))) (e ▸ hown p hp)
      rcases List.mem_cons.mp hp with rfl | hp
      · intro hm
        obtain ⟨q, hq, e⟩ := addr_led (w := w) hm
        exact Nat.ne_of_lt (hP q (List.mem_cons_of_mem _ (List.mem_append_left _ hq))) e
      rcases List.mem_cons.mp hp with rfl | hp
      · intro hm
        obtain ⟨q, hq, e⟩ := addr_led (w := w) hm
        exact qT q (List.mem_append_left _ hq) e
      rcases List.mem_append.mp hp with hp | hp
      · intro hm
        obtain ⟨q, hq, e⟩ := addr_led (w := w) hm
        exact Nat.lt_irrefl _ (Nat.lt_trans (hl1 p hp) (e ▸ hP q (List.mem_cons_of_mem _ (List.mem_append_left _ hq))))
      · exact qb p hp
    have hC1 : (C, listOf vs.toArray kk) ∈ bankLed w b1 ++ (tl1 ++ (tl' ++ [(C, listOf vs.toArray kk), (L + 1, oC)])) := List.mem_append_right _ (List.mem_append_right _ (List.mem_append_right _ List.mem_cons_self))
    have hc1 : (L + 1, oC) ∈ bankLed w b1 ++ (tl1 ++ (tl' ++ [(C, listOf vs.toArray kk), (L + 1, oC)])) := List.mem_append_right _ (List.mem_append_right _ (List.mem_append_right _ (List.mem_cons_of_mem _ List.mem_cons_self)))
    generalize hrest : bankLed w b1 ++ (tl1 ++ (tl' ++ [(C, listOf vs.toArray kk), (L + 1, oC)])) = rest at N2 r2 hC1 hc1 hbm hbd
    have hsn : 2 + 2 * i + 1 ≤ 900 := by omega
    have hsn' : 2 + 2 * i ≤ 900 := by omega
    have mk : NzMark := trivial
    (repeat' (first | (k_unfold; (try dsimp only)) | (k_end; wrow_close) | ((with_reducible show wpAny _ _ (execs (Stmt.Assign [Expr.Name (Str.ofString "bound") _] _ _ :: _) _) _ _ _); refine nz_stop ?_) | ((with_reducible show wpAny _ _ (exec (.For _ _ _ _ _) _) _ _ _); refine nz_stop ?_) | ((with_reducible show wpAny _ _ (eval (.IfExp _ _ _ _) _) _ _ _); (with_reducible rename NzMark => hm9); clear hm9; refine nz_stop ?_) | ((with_reducible show wpAny _ _ (call (Value.ref _) _) _ _ _); first | ((with_reducible show wpAny _ _ (call (Value.ref 212) _) _ _ _); refine nz_stop ?_) | ((with_reducible show wpAny _ _ (call (Value.ref 605) _) _ _ _); k_dflt (apply use_next; walk_at "nz:asm"; (· k_mem); (with_reducible assumption); (· k_updF); (iterate 3 (with_reducible assumption)); (first | with_reducible assumption | exact Nat.le_of_ble_eq_true rfl); (iterate 2 decide); (intro oo; (try dsimp only); exact ⟨by k_mem, by k_mem⟩)); walk_at "nz:room"; intro o9 v9 t9 u9 sp9 h9 tk9 F9 N9 hO9 hv9 hw9 hs9; (try dsimp only at N9); (try dsimp only); (try walk_at "nz:fold")) | ((with_reducible show wpAny _ _ (call (Value.ref 612) _) _ _ _); walk_at "nz:rt"; (· k_dflt (apply low_spec <;> omega)); walk_at "nz:rt2")) | walk1 | (dsimp only; walk1) | (leave1; (try dsimp only)) | fail "no step"))
    unfold NzStop
    refine so_any ?_ fun so tso tkso hso => ?_
    · (repeat' (first | (k_unfold; (try dsimp only)) | (k_end; wrow_close) | ((with_reducible show wpAny _ _ (execs (Stmt.Assign [Expr.Name (Str.ofString "bound") _] _ _ :: _) _) _ _ _); refine nz_stop ?_) | ((with_reducible show wpAny _ _ (exec (.For _ _ _ _ _) _) _ _ _); refine nz_stop ?_) | ((with_reducible show wpAny _ _ (eval (.IfExp _ _ _ _) _) _ _ _); (with_reducible rename NzMark => hm9); clear hm9; refine nz_stop ?_) | ((with_reducible show wpAny _ _ (call (Value.ref _) _) _ _ _); first | ((with_reducible show wpAny _ _ (call (Value.ref 212) _) _ _ _); refine nz_stop ?_) | ((with_reducible show wpAny _ _ (call (Value.ref 605) _) _ _ _); k_dflt (apply use_next; walk_at "nz:asm"; (· k_mem); (with_reducible assumption); (· k_updF); (iterate 3 (with_reducible assumption)); (first | with_reducible assumption | exact Nat.le_of_ble_eq_true rfl); (iterate 2 decide); (intro oo; (try dsimp only); exact ⟨by k_mem, by k_mem⟩)); walk_at "nz:room"; intro o9 v9 t9 u9 sp9 h9 tk9 F9 N9 hO9 hv9 hw9 hs9; (try dsimp only at N9); (try dsimp only); (try walk_at "nz:fold")) | ((with_reducible show wpAny _ _ (call (Value.ref 612) _) _ _ _); walk_at "nz:rt"; (· k_dflt (apply low_spec <;> omega)); walk_at "nz:rt2")) | walk1 | (dsimp only; walk1) | (leave1; (try dsimp only)) | fail "no step"))
      · exact ⟨_, _, _, rfl, .inr rfl, rfl⟩
      all_goals exact ⟨_, _, _, rfl, .inl rfl, rfl⟩
    have hso0 : 0 ≤ so := by rcases hso with rfl | rfl <;> decide
    have hso2 : so ≤ 2 := by rcases hso with rfl | rfl <;> decide
    (repeat' (first | (k_unfold; (try dsimp only)) | (k_end; wrow_close) | ((with_reducible show wpAny _ _ (execs (Stmt.Assign [Expr.Name (Str.ofString "bound") _] _ _ :: _) _) _ _ _); refine nz_stop ?_) | ((with_reducible show wpAny _ _ (exec (.For _ _ _ _ _) _) _ _ _); refine nz_stop ?_) | ((with_reducible show wpAny _ _ (eval (.IfExp _ _ _ _) _) _ _ _); (with_reducible rename NzMark => hm9); clear hm9; refine nz_stop ?_) | ((with_reducible show wpAny _ _ (call (Value.ref _) _) _ _ _); first | ((with_reducible show wpAny _ _ (call (Value.ref 212) _) _ _ _); refine nz_stop ?_) | ((with_reducible show wpAny _ _ (call (Value.ref 605) _) _ _ _); k_dflt (apply use_next; walk_at "nz:asm"; (· k_mem); (with_reducible assumption); (· k_updF); (iterate 3 (with_reducible assumption)); (first | with_reducible assumption | exact Nat.le_of_ble_eq_true rfl); (iterate 2 decide); (intro oo; (try dsimp only); exact ⟨by k_mem, by k_mem⟩)); walk_at "nz:room"; intro o9 v9 t9 u9 sp9 h9 tk9 F9 N9 hO9 hv9 hw9 hs9; (try dsimp only at N9); (try dsimp only); (try walk_at "nz:fold")) | ((with_reducible show wpAny _ _ (call (Value.ref 612) _) _ _ _); walk_at "nz:rt"; (· k_dflt (apply low_spec <;> omega)); walk_at "nz:rt2")) | walk1 | (dsimp only; walk1) | (leave1; (try dsimp only)) | fail "no step"))
    all_goals (
      unfold NzStop
      subst hrest
      (rename News _ _ _ _ => N3)
      (rename Fr _ _ _ _ => F3)
      (rename TapeO _ _ _ _ _ _ => hO3)
      (rename Obj => o3)
      have N4 : News h₀ L _ (bankLed w b1 ++ (own ++ (P, listOf vs1.toArray kP1) :: (Tp, o3) :: (tl1 ++ (tl' ++ [(C, listOf vs.toArray kk), (L + 1, oC)])))) := news_sub N3 (sub_both (sub_tail (sub_app (sub_tail (sub_tail sub_left)))) (sub_both (sub_tail sub_left) (sub_cons (by k_mem) (sub_cons (by k_mem) (sub_tail (sub_app (sub_tail (sub_tail (sub_app sub_refl)))))))))
      rw [← ha2]
      refine specU_use (fresh_spec (news := []) (rest := own ++ (P, listOf vs1.toArray kP1) :: (Tp, o3) :: (tl1 ++ (tl' ++ [(C, listOf vs.toArray kk), (L + 1, oC)]))) G1 (sub_both (sub_app (sub_tail (sub_tail sub_left))) (sub_app (sub_tail (sub_tail (sub_app sub_left))))) (hoff o3) (by omega) hso0 hso2) B F3 X N4 T rfl (by ktr_room) (by ktr_units) ?_
      rintro _ _ h4 tk4 F4 N5 ⟨b2, tl2, t4, rfl, ha4, hB4, G4, rfl, hgt4⟩
      (try rw [ha2])
      have N6 : News h₀ L h4 (own ++ (P, listOf vs1.toArray kP1) :: (Tp, o3) :: (bankLed w b2 ++ ((tl2 ++ tl1) ++ (tl' ++ [(C, listOf vs.toArray kk), (L + 1, oC)])))) := news_sub N5 (sub_both (sub_app (sub_app sub_left)) (sub_cons (by k_mem) (sub_cons (by k_mem) (sub_both sub_left (sub_both (sub_both (sub_app sub_left) (sub_app (sub_app (sub_app (sub_tail (sub_tail sub_left)))))) (sub_app (sub_app (sub_app (sub_tail (sub_tail (sub_app sub_refl)))))))))))
      clear N3 N4 N5 F3
      have hg2 : ∀ p ∈ tl2, @LT.lt Nat _ P p.1 := fun p hp => hgt4 p hp (P, listOf vs1.toArray kP1) (by k_mem)
      have r4 : ∀ p ∈ bankLed w b2 ++ ((tl2 ++ tl1) ++ (tl' ++ [(C, listOf vs.toArray kk), (L + 1, oC)])), p.1 ≠ P := fun p hp => by
        rcases List.mem_append.mp hp with hp | hp
        · exact led_move (K := fun a => a ≠ P) (ha4.trans ha1) (fun q hq => Nat.ne_of_lt (hP q (List.mem_cons_of_mem _ (List.mem_append_left _ hq)))) p hp
        rcases List.mem_append.mp hp with hp | hp
        · rcases List.mem_append.mp hp with hp | hp
          · exact Nat.ne_of_gt (hg2 p hp)
          · exact Nat.ne_of_gt (hl1 p hp)
        · exact Nat.ne_of_lt (hP p (List.mem_cons_of_mem _ (List.mem_append_right _ hp)))
      have r5 : ∀ p ∈ own, p.1 ≠ P := off_of hw hown (a := P) (by k_mem)
      have hvl1 : vs1.length ≤ 1000 := by rw [hv1.length]; have := hd1.len; omega
      (repeat' (first | (k_unfold; (try dsimp only)) | (k_end; wrow_close) | ((with_reducible show wpAny _ _ (execs (Stmt.Assign [Expr.Name (Str.ofString "bound") _] _ _ :: _) _) _ _ _); refine nz_stop ?_) | ((with_reducible show wpAny _ _ (exec (.For _ _ _ _ _) _) _ _ _); refine nz_stop ?_) | ((with_reducible show wpAny _ _ (eval (.IfExp _ _ _ _) _) _ _ _); (with_reducible rename NzMark => hm9); clear hm9; refine nz_stop ?_) | ((with_reducible show wpAny _ _ (call (Value.ref _) _) _ _ _); first | ((with_reducible show wpAny _ _ (call (Value.ref 212) _) _ _ _); refine nz_stop ?_) | ((with_reducible show wpAny _ _ (call (Value.ref 605) _) _ _ _); k_dflt (apply use_next; walk_at "nz:asm"; (· k_mem); (with_reducible assumption); (· k_updF); (iterate 3 (with_reducible assumption)); (first | with_reducible assumption | exact Nat.le_of_ble_eq_true rfl); (iterate 2 decide); (intro oo; (try dsimp only); exact ⟨by k_mem, by k_mem⟩)); walk_at "nz:room"; intro o9 v9 t9 u9 sp9 h9 tk9 F9 N9 hO9 hv9 hw9 hs9; (try dsimp only at N9); (try dsimp only); (try walk_at "nz:fold")) | ((with_reducible show wpAny _ _ (call (Value.ref 612) _) _ _ _); walk_at "nz:rt"; (· k_dflt (apply low_spec <;> omega)); walk_at "nz:rt2")) | walk1 | (dsimp only; walk1) | (leave1; (try dsimp only)) | fail "no step")))
    all_goals (
      (rename News _ _ _ _ => N9)
      (rename Fr _ _ _ _ => F9)
      have hwn : ∀ a : Nat, (∀ q ∈ own, @LT.lt Nat _ q.1 a) → a ∉ wr := fun a h hm => by
        obtain ⟨o, ho⟩ := hwo _ hm
        exact Nat.lt_irrefl _ (h _ ho)
      have hwB : ∀ p ∈ bankLed w b2, p.1 ∉ wr := led_move (K := fun a => a ∉ wr) ha4 (fun q hq => hw q (List.mem_cons_of_mem _ (List.mem_cons_of_mem _ (List.mem_append_left _ hq))))
      have hwP : P ∉ wr := hw (P, listOf vs1.toArray kP1) List.mem_cons_self
      have hwT : Tp ∉ wr := hw (Tp, oT1) (List.mem_cons_of_mem _ List.mem_cons_self)
      have hw1 : ∀ p ∈ tl1 ++ (tl' ++ [(C, listOf vs.toArray kk), (L + 1, oC)]), p.1 ∉ wr := fun p hp => hw p (List.mem_cons_of_mem _ (List.mem_cons_of_mem _ (List.mem_append_right _ hp)))
      have hw2 : ∀ p ∈ tl2, p.1 ∉ wr := fun p hp => hwn _ fun q hq => hgt4 p hp q (List.mem_append_right _ (List.mem_append_left _ hq)))
    all_goals first
      | ((rename _ ∧ AllLt _ own ∧ _ => hD)
         (rename AllLt _ own ∧ _ => hD9)
         (rename _ - 19 ≠ (0 : Int) => htop)
         obtain ⟨d1, d2, d3, d4, d5, d6⟩ := hD
         obtain ⟨f2, f3, f4, f5, f6⟩ := hD9
         exact nz_end ⟨b2, o3, _, _, _, kP1 + 1, vs1 ++ [_], ts1 ++ [(3 + (i : Int), Rat.divInt _ _)], _ :: _ :: (tl2 ++ tl1)⟩ F9 N9 (sub_tail (sub_tail sub_left))
           (sub_cons (by k_mem) (sub_cons (by k_mem) (sub_both (sub_tail (sub_tail (sub_app (sub_tail (sub_tail sub_left))))) (sub_both (sub_cons List.mem_cons_self (sub_cons (List.mem_cons_of_mem _ List.mem_cons_self) (sub_tail (sub_tail (sub_app (sub_tail (sub_tail (sub_app sub_left)))))))) (sub_tail (sub_tail (sub_app (sub_tail (sub_tail (sub_app (sub_app sub_refl)))))))))))
           (List.forall_mem_cons.mpr ⟨hwP, List.forall_mem_cons.mpr ⟨hwT, List.forall_mem_append.mpr ⟨hwB, List.forall_mem_append.mpr ⟨List.forall_mem_cons.mpr ⟨hwn _ (ktn_ltOf d2), List.forall_mem_cons.mpr ⟨hwn _ (ktn_ltOf f2), List.forall_mem_append.mpr ⟨hw2, fun p hp => hw1 p (List.mem_append_left _ hp)⟩⟩⟩, fun p hp => hw1 p (List.mem_append_right _ hp)⟩⟩⟩⟩)
           (List.forall_mem_nil _) (by ksw_same)
           ⟨ha4.trans ha1, hB4.trans ha2, G4.more (sub_both (sub_tail (sub_tail (fun p hp => List.mem_append_left _ (List.mem_append_left _ hp)))) (sub_both (sub_tail (sub_tail (fun p hp => List.mem_append_left _ (List.mem_append_right _ hp)))) (sub_tail (sub_tail (sub_app sub_refl)))))
             (List.forall_mem_cons.mpr ⟨lt_off d5, List.forall_mem_cons.mpr ⟨lt_off f5, fun p hp => G4.off p (by rw [← List.append_assoc]; exact hp)⟩⟩), hO3, SpOk.le (by with_reducible assumption) (by omega),
             (hv1.imp fun _ _ k => k.mono (sub_tail (sub_tail (sub_app sub_refl)))).snoc (TermIn.mk List.mem_cons_self (RtIn.mk (ρ := Rat.divInt _ _) (List.mem_cons_of_mem _ List.mem_cons_self))), draws_snoc hd1 G1.lsrt hso htop (by omega) (by omega),
             List.forall_mem_cons.mpr ⟨d3, List.forall_mem_cons.mpr ⟨f3, List.forall_mem_append.mpr ⟨hg2, hl1⟩⟩⟩⟩)
      | (exact nz_end ⟨b2, o3, _, _, _, kP1, vs1, ts1, tl2 ++ tl1⟩ F9 N9 sub_left (sub_app sub_refl)
           (List.forall_mem_cons.mpr ⟨hwP, List.forall_mem_cons.mpr ⟨hwT, List.forall_mem_append.mpr ⟨hwB, List.forall_mem_append.mpr ⟨List.forall_mem_append.mpr ⟨hw2, fun p hp => hw1 p (List.mem_append_left _ hp)⟩, fun p hp => hw1 p (List.mem_append_right _ hp)⟩⟩⟩⟩)
           (List.forall_mem_nil _) (by ksw_same)
           ⟨ha4.trans ha1, hB4.trans ha2, by rw [List.append_assoc]; exact G4, hO3, SpOk.le (by with_reducible assumption) (by omega), hv1.imp fun _ _ k => k.mono (sub_app sub_refl), draws_skip hd1 G1.lsrt hso, List.forall_mem_append.mpr ⟨hg2, hl1⟩⟩)
  · intro c uu h tk hR F2 N2
    clear F1 N1 hrg
    obtain ⟨b1, oT1, u1, sp1, srt1, kP1, vs1, ts1, tl1⟩ := c
    obtain ⟨ha1, ha2, G1, hO1, hsp, hv1, hd1, hl1⟩ := hR
    dsimp only [kstB] at F2 N2 ha1 ha2 G1 hO1 hsp hv1 hd1 hl1
    have hTP : @LT.lt Nat _ Tp P := hP (Tp, oT) List.mem_cons_self
    have r2 : ∀ p ∈ bankLed w b1 ++ (tl1 ++ (tl' ++ [(C, listOf vs.toArray kk), (L + 1, oC)])), p.1 ≠ Tp := fun p hp => by
      rcases List.mem_append.mp hp with hp | hp
      · exact led_move (K := fun a => a ≠ Tp) ha1 (fun q hq => qT q (List.mem_append_left _ hq)) p hp
      rcases List.mem_append.mp hp with hp | hp
      · exact Nat.ne_of_gt (Nat.lt_trans hTP (hl1 p hp))
      · exact qT p (List.mem_append_right _ hp)
    have hc1 : (L + 1, oC) ∈ bankLed w b1 ++ (tl1 ++ (tl' ++ [(C, listOf vs.toArray kk), (L + 1, oC)])) := List.mem_append_right _ (List.mem_append_right _ (List.mem_append_right _ (List.mem_cons_of_mem _ List.mem_cons_self)))
    have hC1 : (C, listOf vs.toArray kk) ∈ bankLed w b1 ++ (tl1 ++ (tl' ++ [(C, listOf vs.toArray kk), (L + 1, oC)])) := List.mem_append_right _ (List.mem_append_right _ (List.mem_append_right _ List.mem_cons_self))
    rw [← ha2] at dC
    (repeat' (first | (k_unfold; (try dsimp only)) | (k_end; wrow_close) | ((with_reducible show wpAny _ _ (execs (Stmt.Assign [Expr.Name (Str.ofString "bound") _] _ _ :: _) _) _ _ _); refine nz_stop ?_) | ((with_reducible show wpAny _ _ (exec (.For _ _ _ _ _) _) _ _ _); refine nz_stop ?_) | ((with_reducible show wpAny _ _ (eval (.IfExp _ _ _ _) _) _ _ _); (with_reducible rename NzMark => hm9); clear hm9; refine nz_stop ?_) | ((with_reducible show wpAny _ _ (call (Value.ref _) _) _ _ _); first | ((with_reducible show wpAny _ _ (call (Value.ref 212) _) _ _ _); refine nz_stop ?_) | ((with_reducible show wpAny _ _ (call (Value.ref 605) _) _ _ _); k_dflt (apply use_next; walk_at "nz:asm"; (· k_mem); (with_reducible assumption); (· k_updF); (iterate 3 (with_reducible assumption)); (first | with_reducible assumption | exact Nat.le_of_ble_eq_true rfl); (iterate 2 decide); (intro oo; (try dsimp only); exact ⟨by k_mem, by k_mem⟩)); walk_at "nz:room"; intro o9 v9 t9 u9 sp9 h9 tk9 F9 N9 hO9 hv9 hw9 hs9; (try dsimp only at N9); (try dsimp only); (try walk_at "nz:fold")) | ((with_reducible show wpAny _ _ (call (Value.ref 612) _) _ _ _); walk_at "nz:rt"; (· k_dflt (apply low_spec <;> omega)); walk_at "nz:rt2")) | walk1 | (dsimp only; walk1) | (leave1; (try dsimp only)) | fail "no step"))
    (rename Fr _ _ _ _ => F9); (rename News _ _ _ _ => N9)
    unfold NzStop
    exact law_bound (news := []) (C := C) B F9 X N9 T rfl rfl hTP r2 hC1 hc1 dC (bank_in G1 sub_left) (hv1.imp fun _ _ k => k.mono (sub_app sub_left)) hd1 G1.lsrt (by omega) hO1 (SpOk.le hsp (by omega)) hI hl fun h' tk' m' nx F N => hret _ _ _ _ F N
end
section
noncomputable def lawMid : List Stmt := lawRec.body.drop 2
set_option maxHeartbeats 8000000 in
theorem law_mid {w : World} {mean : ExcName → Option Value} {mg mb : Str → Option Value} {news : Led} {fa L : Addr} {ccd : Value} {base h₀ : Heap} {m : Str → Option Value} {s : Shared} {Q : Flow → Shared → Prop} {E : Value → Shared → Prop}
    {Tp C : Nat} {oT oC : Obj} {vs : List Value} {kk : Nat} {u : Tok}
    (B : Below callerA base [] h₀) (F : Fr h₀ L s.heap m) (X : (pre.heap_1_39 w.params).In h₀) (N : News h₀ L s.heap [(Tp, oT), (C, listOf vs.toArray kk), (L + 1, oC)]) (T : Top pre.view_1_40 (looseW pre.view_1_40 []) mean mg mb h₀)
    (m1 : m (Str.ofString "tape") = some (.ref Tp)) (hne1 : Tp ≠ C) (hne2 : @Ne Nat Tp (L + 1)) (hne3 : @Ne Nat C (L + 1)) {cv : Option Value} (dC : oC.data = .cell cv) (hO : TapeO PySem.Challenge.rw_nz0148_01.row.prog w oT C 0 u) (hI : ∀ v ∈ vs, ∃ k t, v = Value.int k t) (hl : vs.length ≤ 63)
    (hE : PassesOwn (model PySem.Challenge.rw_nz0148_01.row.prog w) (callerA.deeper (envOfC lawRec.name lawRec.scope L fa ccd)) (envOfC lawRec.name lawRec.scope L fa ccd) E)
    (hret : ∀ h' tk' m' nx, Fr h₀ L h' m' → News h₀ L h' nx → Q (.ret (.bool true)) { s with heap := h', toks := tk' }) :
    wpAny (model PySem.Challenge.rw_nz0148_01.row.prog w) (callerA.deeper (envOfC lawRec.name lawRec.scope L fa ccd)) (execs lawMid (envOfC lawRec.name lawRec.scope L fa ccd)) Q E s := by
  revert X
  k_fill
  intro X
  dsimp only [lawMid, lawRec, recGet, List.drop_succ_cons, List.drop_zero]
  have F0 := ksw_fr (ps := [(Str.ofString "tape", .ref Tp)]) (m₀ := m) (m₁ := m) (stored := []) (List.forall_mem_cons.mpr ⟨m1, List.forall_mem_nil _⟩) (fun _ _ _ => rfl) F
  dsimp only [kstB] at F0
  clear F
  (repeat' (first | (k_unfold; (try dsimp only)) | (k_end; wrow_close) | ((with_reducible show wpAny _ _ (execs (Stmt.For (Expr.Name (Str.ofString "lap") _) _ _ _ _ :: _) _) _ _ _); refine nz_stop ?_) | ((with_reducible show wpAny _ _ (call (Value.ref _) _) _ _ _); first | ((with_reducible show wpAny _ _ (call (Value.ref 549) _) _ _ _); refine nz_stop ?_) | ((with_reducible show wpAny _ _ (call (Value.ref 605) _) _ _ _); k_dflt (apply use_next; walk_at "nz:asm"; (· k_mem); (with_reducible assumption); (· k_updF); (iterate 3 (with_reducible assumption)); (first | with_reducible assumption | exact Nat.le_of_ble_eq_true rfl); (iterate 2 decide); (intro oo; (try dsimp only); exact ⟨by k_mem, by k_mem⟩)); walk_at "nz:room"; intro o9 v9 t9 u9 sp9 h9 tk9 F9 N9 hO9 hv9 hw9 hs9; (try dsimp only at N9); (try dsimp only); (try walk_at "nz:fold"))) | walk1 | (dsimp only; walk1) | (leave1; (try dsimp only)) | fail "no step"))
  (rename News _ _ _ _ => N1); (rename Fr _ _ _ _ => F1)
  unfold NzStop
  refine spec_use bank_spec B F1 X N1 T rfl (by ktr_room) (by ktr_units) ?_
  rintro _ tl9 h9 tk9 F9 N9 ⟨b, tl', rfl, hsub, hgt, G⟩
  have q1 : ∀ p ∈ bankLed w b ++ tl', p.1 ≠ L + 1 := fun p hp => Nat.ne_of_gt (hgt p hp (L + 1, oC) (by k_mem))
  have q2 : ∀ p ∈ bankLed w b ++ tl', p.1 ≠ Tp := fun p hp => Nat.ne_of_gt (hgt p hp (Tp, oT) (by k_mem))
  replace N9 : News h₀ L h9 (bankLed w b ++ tl' ++ [(Tp, oT), (C, listOf vs.toArray kk), (L + 1, oC)]) := news_sub N9 (sub_both (fun p hp => List.mem_append_left _ (hsub p hp)) (sub_app sub_refl))
  clear N1 F1 hsub
  (try dsimp only)
  have hsp0 : SpOk 0 0 := ⟨by decide, by decide⟩
  (repeat' (first | (k_unfold; (try dsimp only)) | (k_end; wrow_close) | ((with_reducible show wpAny _ _ (execs (Stmt.For (Expr.Name (Str.ofString "lap") _) _ _ _ _ :: _) _) _ _ _); refine nz_stop ?_) | ((with_reducible show wpAny _ _ (call (Value.ref _) _) _ _ _); first | ((with_reducible show wpAny _ _ (call (Value.ref 549) _) _ _ _); refine nz_stop ?_) | ((with_reducible show wpAny _ _ (call (Value.ref 605) _) _ _ _); k_dflt (apply use_next; walk_at "nz:asm"; (· k_mem); (with_reducible assumption); (· k_updF); (iterate 3 (with_reducible assumption)); (first | with_reducible assumption | exact Nat.le_of_ble_eq_true rfl); (iterate 2 decide); (intro oo; (try dsimp only); exact ⟨by k_mem, by k_mem⟩)); walk_at "nz:room"; intro o9 v9 t9 u9 sp9 h9 tk9 F9 N9 hO9 hv9 hw9 hs9; (try dsimp only at N9); (try dsimp only); (try walk_at "nz:fold"))) | walk1 | (dsimp only; walk1) | (leave1; (try dsimp only)) | fail "no step"))
  (rename Fr _ _ _ _ => F9); (rename News _ _ _ _ => N9); (rename (AllLt _ (bankLed w b) ∧ AllLt _ tl') ∧ _ => hA)
  (rename TapeO _ _ _ _ _ _ => hO9); (rename SpOk _ _ => hs9)
  obtain ⟨⟨a1, a2⟩, a3, a4, a5⟩ := hA
  unfold NzStop
  refine law_loop (news := []) (C := C) B F9 X (news_sub N9 (sub_tail (sub_tail (sub_cons List.mem_cons_self (sub_cons (List.mem_cons_of_mem _ (List.mem_append_right _ List.mem_cons_self)) (sub_tail (sub_both (fun p hp => List.mem_append_left _ (List.mem_append_left _ hp)) (sub_both (fun p hp => List.mem_append_left _ (List.mem_append_right _ hp)) (sub_app (sub_tail sub_refl))))))))))
    T rfl rfl rfl rfl ?_ ?_ ?_ G (by with_reducible assumption) hO9 hs9 hI hl (by omega) (by omega) hE fun h' tk' m' nx F N => hret _ _ _ _ F N
  · exact List.forall_mem_cons.mpr ⟨a3, List.forall_mem_append.mpr ⟨ktn_ltOf a1, List.forall_mem_append.mpr ⟨ktn_ltOf a2, List.forall_mem_cons.mpr ⟨a4, List.forall_mem_cons.mpr ⟨a5, List.forall_mem_nil _⟩⟩⟩⟩⟩
  · exact List.forall_mem_append.mpr ⟨fun p hp => q2 p (List.mem_append_left _ hp), List.forall_mem_append.mpr ⟨fun p hp => q2 p (List.mem_append_right _ hp), List.forall_mem_cons.mpr ⟨fun e => hne1 e.symm, List.forall_mem_cons.mpr ⟨fun e => hne2 e.symm, List.forall_mem_nil _⟩⟩⟩⟩
  · have low : ∀ q ∈ [(Tp, oT), (C, listOf vs.toArray kk), (L + 1, oC)], q.1 ∉ b.addrs := fun q hq hm => by
      obtain ⟨p, hp, e⟩ := addr_led (w := w) hm
      have := hgt p (List.mem_append_left _ hp) q hq
      rw [e] at this
      exact Nat.lt_irrefl _ this
    exact List.forall_mem_append.mpr ⟨G.off, List.forall_mem_cons.mpr ⟨low (C, listOf vs.toArray kk) (by k_mem), List.forall_mem_cons.mpr ⟨low (L + 1, oC) (by k_mem), List.forall_mem_nil _⟩⟩⟩
end
set_option Elab.async true
section
theorem all2_ints : ∀ {vs : List Value} {ks : List Int}, All2 IntV vs ks → ∀ v ∈ vs, ∃ k t, v = Value.int k t
  | _, _, .nil => List.forall_mem_nil _
  | _, _, .cons ⟨t, e⟩ r => List.forall_mem_cons.mpr ⟨⟨_, t, e⟩, all2_ints r⟩
theorem fin.tw13146899343941306046 : True := trivial
set_option maxRecDepth 100000 in
set_option maxHeartbeats 8000000 in
theorem fin : PySem.Challenge.rw_nz0148_01.Holds := by
  refine hd ?_
  w_on
  unfold WalkT
  dsimp only [lawRec, recGet]
  w_strict k_go0
  (all_goals try k_fold)
  (repeat' (first | (k_unfold; (try dsimp only)) | (k_end; wrow_close) | ((with_reducible show wpAny _ _ (execs (Stmt.Assign [Expr.Tuple [Expr.Name (Str.ofString "bank") _, _] _ _] _ _ :: _) _) _ _ _); refine nz_stop ?_) | ((with_reducible show wpAny _ _ (compareOp .NotEq (.ref _) (.ref _)) _ _ _); refine nz_stop ?_) | walk1 | (dsimp only; walk1) | (leave1; (try dsimp only)) | fail "no step"))
  (rename Fr _ _ _ _ => F1); (rename News _ _ _ _ => N1); (rename IntsAre _ (List.take 40 _) => hI1)
  have hl1 := hI1.length
  have hl2 : ∀ (l : List Int), (List.take 40 l).length ≤ 40 := fun l => by rw [List.length_take]; omega
  have hl3 := hl2 (by assumption)
  refine comp_list F1 N1 (by k_mem) (by rw [hl1]; exact Nat.le_trans (hl2 _) (by decide)) (base := []) (binds_name rfl rfl) (fun i ys nx => ∃ ks, All2 IntV ys ks ∧ ks.length = i) ⟨[], .nil, rfl⟩ (fun _ h => nomatch h) ?_ ?_
  · intro i v ys nx own wr C oC D m₂ h tk E' hi hBd hC hJ hyl F6 N6 off hwo
    obtain ⟨hma, _, hv9⟩ := hBd
    obtain ⟨k', t', rfl, _⟩ := hI1.at i v hv9
    obtain ⟨hs, ks, hK, hks⟩ := hJ
    clear F1 N1
    refine tests_nil ?_
    (repeat' (first | (k_unfold; (try dsimp only)) | (k_end; wrow_close) | ((with_reducible show wpAny _ _ (execs (Stmt.Assign [Expr.Tuple [Expr.Name (Str.ofString "bank") _, _] _ _] _ _ :: _) _) _ _ _); refine nz_stop ?_) | ((with_reducible show wpAny _ _ (compareOp .NotEq (.ref _) (.ref _)) _ _ _); refine nz_stop ?_) | walk1 | (dsimp only; walk1) | (leave1; (try dsimp only)) | fail "no step"))
    (rename Fr _ _ _ _ => F9); (rename News _ _ _ _ => N9)
    exact nz_cend0 F9 N9 sub_refl off ⟨hs, _, hK.snoc ⟨_, rfl⟩, by rw [List.length_append, hks]; rfl⟩
  · intro D h tk ys nx N6 hne hs hK F6
    have N7 := news_sub N6 (sub_cons List.mem_cons_self (sub_cons (List.mem_cons_of_mem _ (hs _ (List.mem_cons_of_mem _ List.mem_cons_self))) sub_nil))
    have hne3 := hne _ (hs _ (List.mem_cons_of_mem _ List.mem_cons_self))
    clear F1 N1 N6 hne hs
    obtain ⟨ks, hK, hks⟩ := hK
    (repeat' (first | (k_unfold; (try dsimp only)) | (k_end; wrow_close) | ((with_reducible show wpAny _ _ (execs (Stmt.Assign [Expr.Tuple [Expr.Name (Str.ofString "bank") _, _] _ _] _ _ :: _) _) _ _ _); refine nz_stop ?_) | ((with_reducible show wpAny _ _ (compareOp .NotEq (.ref _) (.ref _)) _ _ _); refine nz_stop ?_) | walk1 | (dsimp only; walk1) | (leave1; (try dsimp only)) | fail "no step"))
    unfold NzStop
    (rename Fr _ _ _ _ => F8); (rename News _ _ _ _ => N8)
    rcases hK with _ | ⟨⟨t0, rfl⟩, hK⟩
    · refine nz_ne N8 (DatIn.list (by k_mem) .nil) (DatIn.list (by k_mem) .nil) rfl rfl (by ktr_units) (r := true) ⟨fun _ => rfl, fun _ => rfl⟩ ?_
      (repeat' (first | (k_unfold; (try dsimp only)) | (k_end; wrow_close) | ((with_reducible show wpAny _ _ (execs (Stmt.Assign [Expr.Tuple [Expr.Name (Str.ofString "bank") _, _] _ _] _ _ :: _) _) _ _ _); refine nz_stop ?_) | ((with_reducible show wpAny _ _ (compareOp .NotEq (.ref _) (.ref _)) _ _ _); refine nz_stop ?_) | walk1 | (dsimp only; walk1) | (leave1; (try dsimp only)) | fail "no step"))
      (rename Fr _ _ _ _ => F9); (rename News _ _ _ _ => N9); (rename Obj.IsDictOf _ _ (strPairs _) => hd9); (rename Frag.In _ _ => X1); (rename Top _ _ _ _ _ _ => T1); (rename Below _ _ _ _ => B1); (rename Obj.data _ = Data.cell _ => dC); (rename _ ∧ _ => hA)
      unfold NzStop
      refine law_mid (news := []) B1 F9 X1 (news_sub N9 (sub_cons (q := (_, _)) (by k_mem) (sub_cons (by k_mem) (sub_cons (by k_mem) sub_nil)))) T1 rfl ?_ ?_ ?_ dC ⟨hd9⟩ ?_ ?_ (by passes_own) ?_
      · omega
      · omega
      · omega
      · exact List.forall_mem_cons.mpr ⟨⟨_, _, rfl⟩, List.forall_mem_cons.mpr ⟨⟨_, _, rfl⟩, List.forall_mem_cons.mpr ⟨⟨_, _, rfl⟩, List.forall_mem_cons.mpr ⟨⟨_, _, rfl⟩, List.forall_mem_cons.mpr ⟨⟨_, _, rfl⟩, List.forall_mem_cons.mpr ⟨⟨_, _, rfl⟩, List.forall_mem_cons.mpr ⟨⟨_, _, rfl⟩, List.forall_mem_cons.mpr ⟨⟨_, _, rfl⟩, List.forall_mem_cons.mpr ⟨⟨_, _, rfl⟩, List.forall_mem_nil _⟩⟩⟩⟩⟩⟩⟩⟩⟩
      · exact Nat.le_of_ble_eq_true rfl
      · intro h' tk' m' nx F' N'
        (repeat' (first | (k_unfold; (try dsimp only)) | (k_end; wrow_close) | ((with_reducible show wpAny _ _ (execs (Stmt.Assign [Expr.Tuple [Expr.Name (Str.ofString "bank") _, _] _ _] _ _ :: _) _) _ _ _); refine nz_stop ?_) | ((with_reducible show wpAny _ _ (compareOp .NotEq (.ref _) (.ref _)) _ _ _); refine nz_stop ?_) | walk1 | (dsimp only; walk1) | (leave1; (try dsimp only)) | fail "no step"))
        all_goals (try k_data)
        all_goals w_report
    · refine nz_ne N8 (DatIn.list (by k_mem) (ints_dat (.cons ⟨_, rfl⟩ hK))) (DatIn.list (by k_mem) .nil) (ints_ok _ 7) rfl (by ktr_units) (r := false) ⟨(by intro e; injection e with e; cases e), (by intro e; cases e)⟩ ?_
      (repeat' (first | (k_unfold; (try dsimp only)) | (k_end; wrow_close) | ((with_reducible show wpAny _ _ (execs (Stmt.Assign [Expr.Tuple [Expr.Name (Str.ofString "bank") _, _] _ _] _ _ :: _) _) _ _ _); refine nz_stop ?_) | ((with_reducible show wpAny _ _ (compareOp .NotEq (.ref _) (.ref _)) _ _ _); refine nz_stop ?_) | walk1 | (dsimp only; walk1) | (leave1; (try dsimp only)) | fail "no step"))
      (rename Fr _ _ _ _ => F9); (rename News _ _ _ _ => N9); (rename Obj.IsDictOf _ _ (strPairs _) => hd9); (rename Frag.In _ _ => X1); (rename Top _ _ _ _ _ _ => T1); (rename Below _ _ _ _ => B1); (rename Obj.data _ = Data.cell _ => dC); (rename _ ∧ _ => hA)
      unfold NzStop
      refine law_mid (news := []) B1 F9 X1 (news_sub N9 (sub_cons (q := (_, _)) (by k_mem) (sub_cons (by k_mem) (sub_cons (by k_mem) sub_nil)))) T1 rfl ?_ ?_ ?_ dC ⟨hd9⟩ ?_ ?_ (by passes_own) ?_
      · omega
      · omega
      · exact fun e => hne3 e.symm
      · exact all2_ints (.cons ⟨_, rfl⟩ hK)
      · rw [List.length_cons, hK.length, ← List.length_cons (a := (0 : Int)), List.length_cons]
        simp only [List.length_cons] at hks
        omega
      · intro h' tk' m' nx F' N'
        (repeat' (first | (k_unfold; (try dsimp only)) | (k_end; wrow_close) | ((with_reducible show wpAny _ _ (execs (Stmt.Assign [Expr.Tuple [Expr.Name (Str.ofString "bank") _, _] _ _] _ _ :: _) _) _ _ _); refine nz_stop ?_) | ((with_reducible show wpAny _ _ (compareOp .NotEq (.ref _) (.ref _)) _ _ _); refine nz_stop ?_) | walk1 | (dsimp only; walk1) | (leave1; (try dsimp only)) | fail "no step"))
        all_goals (try k_data)
        all_goals w_report
end
end Nz
end
theorem PySem.Challenge.cw_nz0148_01_holds : PySem.Challenge.rw_nz0148_01.Holds :=
  Nz.fin
